import Derived.Test.Qxb6500789aRow
import Derived.StillTailTactics
import Derived.Deep.QuietTactic
import Derived.BigQuiet
import Derived.Deep.RegionHeld
import Derived.Deep.CutRange
import Derived.Laws.ResultCell
import Derived.Laws.Rows
import Derived.DeepKeys
import Derived.DataBytes
import Derived.Laws.StructEq
import Derived.Laws.AppendOwn
import Derived.Laws.MakeOwn
import Derived.Lib.AppendStr
set_option linter.unusedSimpArgs false
set_option linter.unusedVariables false
namespace Go.Proofs.Qxb6500789a
open Go.RowKit Go.Blk
attribute [local go_sem ↓] execOp_load execOp_store execOp_alloc
attribute [local go_sem] Try.ld29 Try.st29 Try.ld3 Try.st3 Try.ld9 Try.st9 Try.ld30 Try.st30 Try.ld34 Try.st34 Try.ld35 Try.st35 Try.ld36 Try.st36 Try.ld37 Try.st37 Try.ld44 Try.st44 Try.ld45 Try.st45 Try.ld54 Try.st54 Try.ld55 Try.st55 Try.ld74 Try.st74 Try.ld80 Try.st80 Try.ld84 Try.st84 Try.ld106 Try.st106 Try.ld107 Try.st107 Try.ld4 Try.st4 Try.ld121 Try.st121 Try.ld2 Try.st2 Try.ld5 Try.st5 Try.ld12 Try.st12 Try.ld21 Try.st21 Try.ld22 Try.st22 Try.ld24 Try.st24 Try.ld26 Try.st26 Try.ld63 Try.st63 Try.ld71 Try.st71 Try.ld103 Try.st103 Try.ld130 Try.st130 Try.ld133 Try.st133 Try.ld140 Try.st140 Try.ld152 Try.st152 Try.ld39 Try.st39 Try.ld32 Try.st32 Try.ld41 Try.st41 Try.ld47 Try.st47 Try.ld57 Try.st57 Try.ld62 Try.st62 Try.ld76 Try.st76 Try.ld82 Try.st82 Try.ld86 Try.st86 Try.ld109 Try.st109 Try.ld115 Try.st115 Try.ld123 Try.st123 Try.ld135 Try.st135 Try.al39 Try.al32 Try.al41 Try.al47 Try.al57 Try.al62 Try.al76 Try.al82 Try.al86 Try.al109 Try.al115 Try.al123 Try.al135
attribute [local go_sem] Answer.length_enc Answer.ok_enc Answer.all_get Answer.all_set Answer.code_get Answer.code_set Answer.n_get Answer.n_set Answer.name_get Answer.name_set Answer.rows_get Answer.rows_set GOp.length_enc GOp.ok_enc GOp.all_get GOp.all_set GOp.kind_get GOp.kind_set GOp.rel_get GOp.rel_set GOp.mask_get GOp.mask_set GOp.t_get GOp.t_set GOp.n_get GOp.n_set GOp.name_get GOp.name_set Store.length_enc Store.ok_enc Store.all_get Store.all_set Store.names_get Store.names_set Store.rels_get Store.rels_set GRel.length_enc GRel.ok_enc GRel.all_get GRel.all_set GRel.arity_get GRel.arity_set GRel.masks_get GRel.masks_set GRel.rows_get GRel.rows_set Row.length_enc Row.ok_enc Row.all_get Row.all_set Row.t_get Row.t_set Row.mark_get Row.mark_set View.length_enc View.ok_enc View.all_get View.all_set View.names_get View.names_set View.rels_get View.rels_set Symtab.length_enc Symtab.ok_enc Symtab.all_get Symtab.all_set Symtab.names_get Symtab.names_set Symtab.table_get Symtab.table_set StoreTuplestore.length_enc StoreTuplestore.ok_enc StoreTuplestore.all_get StoreTuplestore.all_set StoreTuplestore.syms_get StoreTuplestore.syms_set StoreTuplestore.rels_get StoreTuplestore.rels_set StoreTuplestore.syms_names_get StoreTuplestore.syms_names_set StoreTuplestore.syms_table_get StoreTuplestore.syms_table_set Relation.length_enc Relation.ok_enc Relation.all_get Relation.all_set Relation.arity_get Relation.arity_set Relation.slots_get Relation.slots_set Relation.live_get Relation.live_set Relation.idx_get Relation.idx_set Slot.length_enc Slot.ok_enc Slot.all_get Slot.all_set Slot.t_get Slot.t_set Slot.mark_get Slot.mark_set Slot.live_get Slot.live_set RelView.length_enc RelView.ok_enc RelView.all_get RelView.all_set RelView.arity_get RelView.arity_set RelView.rows_get RelView.rows_set RelView.marks_get RelView.marks_set RelView.indexed_get RelView.indexed_set Index.length_enc Index.ok_enc Index.all_get Index.all_set Index.mask_get Index.mask_set Index.heads_get Index.heads_set Index.next_get Index.next_set
attribute [local go_sem] size_put size_ext blk_put free_put blk_alloc free_alloc blk_drew free_drew blk_ext free_ext lookOr_some putOr_some segAt_some cellAt_some storeIn_some put_put put_alloc_new length_arr ok_arr_u8 ok_arr_u32 ok_arr_u64 ok_arr_i64 ok_arr_sl cellsV_agg cellsV_int cellsV_bool cellsV_string cellsV_pointer cellsV_slice cellsV_sl ok_int ok_bool ok_string ok_pointer ok_slice ok_sl toList_arr seg_arr set_arr nth_splice nth_splice0 seg_splice seg_splice0 splice_splice splice_splice0 length_splice_if
attribute [local go_sem ↓] execOp_box
attribute [local go_sem] box_run nth_arr_u8 put_arr_u8 blk_drewN free_drewN put_drewN blk_raw free_raw
def indexOp (t : TypeId) (x i : Value) : Sem Next := do pure (.value (← Instr.index t x i))
theorem execOp_index (a : Act) (dst : Option Tmp) (x i : Operand) (ty : TypeId) (pos : String) (after : Array Edge) (guard : Option (Nat × Bool)) :
    execOp a.eval { dst, op := .index 9 x i, type := ty, pos, after, guard } = indexOp 9 (a.eval x) (a.eval i) := rfl
theorem index_str (w : World) (nm : List UInt8) (i : Nat) (x : UInt8) (hx : nm[i]? = some x) : (indexOp 9 (.string ⟨nm.toArray⟩) (.int .i64 (i : Int))).run Try.prog w = .ok (.value (.int .u8 (w8 x))) w := by
  have hu : Try.prog.underlying 9 = some .string := Try.underlying9
  have h0 : (0 : Int) ≤ (i : Int) := by omega
  have hl : i < nm.length := (List.getElem?_eq_some_iff.1 hx).1
  have hl' : i < (⟨nm.toArray⟩ : ByteArray).size := by simpa [ByteArray.size] using hl
  have hs : (⟨nm.toArray⟩ : ByteArray)[i]? = some x := by
    have e := (List.getElem?_eq_some_iff.1 hx).2
    rw [getElem?_pos (⟨nm.toArray⟩ : ByteArray) i hl', ← e]
    exact congrArg some (ByteArray.getElem_eq_getElem_data.trans (by simp))
  simp [indexOp, Instr.index, asIntOf, run_underlying hu, h0, hs, w8]
def encS (s : List UInt8) : List Value := [.string ⟨s.toArray⟩]
theorem encS_len (s : List UInt8) : (encS s).length = 1 := rfl
theorem encS_one (s : List UInt8) : (encS s).all (fun v => v.oneCell') = true := rfl
def encK (n : Nat) : List Value := [.int .i64 (n : Int)]
theorem encK_len (n : Nat) : (encK n).length = 1 := rfl
theorem encK_one (n : Nat) : (encK n).all (fun v => v.oneCell') = true := rfl
theorem take_at {α : Type} {L : List α} {i : Nat} {x : α} (h : L[i]? = some x) : L.take (i + 1) = L.take i ++ [x] := by
  rw [List.take_add_one, h]; rfl
/-- A row that can be read. -/
def Rw {α : Type} (en : α → List Value) (sz : Nat) (W : World) (a : Option Addr) (n : Nat) (L : List α) : Prop := L.length = n ∧ ∀ i x, L[i]? = some x → ∃ b C, a = some ⟨b, 0, none⟩ ∧ blk W b = some C ∧ n * sz ≤ C.length ∧ seg C (i * sz) sz = en x
theorem rw_own {α : Type} {e : α → List Value} {sz : Nat} (hsz : ∀ x, (e x).length = sz) {B : Nat} {W : World} {ty : TypeId} {a : Option Addr} {n c : Nat} {K : List α} (h : W.ownsRow B ty sz (.slice a n c) K.length (K.flatMap e)) : Rw e sz W a n K ∧ n ≤ c ∧ c ≤ maxLen := by
  obtain ⟨a', b, c', e1, e2, e3, _, h4, _⟩ := own_at hsz h
  injection e1 with e1a e1b e1c
  subst e1a e1b e1c
  refine ⟨⟨h4.1, fun i x hx => ?_⟩, e3, e2⟩
  have hi : i < K.length := (List.getElem?_eq_some_iff.1 hx).1
  obtain ⟨h5, C, h6, h7, h8⟩ := h4.2 (by omega)
  exact ⟨b, C, h5, h6, by omega, by have := h8 i x hx; rwa [Nat.zero_add] at this⟩
theorem Rw.grow {α : Type} {en : α → List Value} {sz : Nat} {W W' : World} {a : Option Addr} {n : Nat} {L : List α} (h : Rw en sz W a n L) (he : W.Extends W') : Rw en sz W' a n L := ⟨h.1, fun i x hx => by
  obtain ⟨b, C, h1, h2, h3⟩ := h.2 i x hx
  exact ⟨b, C, h1, (he.blk (blk_lt h2)).trans h2, h3⟩⟩
theorem Rw.drewN {α : Type} {en : α → List Value} {sz : Nat} {W : World} {a : Option Addr} {n : Nat} {L : List α} (h : Rw en sz W a n L) (k : Nat) : Rw en sz (W.drewN k) a n L := h
theorem Rw.at {α : Type} {en : α → List Value} {sz : Nat} {W : World} {a : Option Addr} {n : Nat} {L : List α} (h : Rw en sz W a n L) {i : Nat} (hi : i < n) : ∃ x b C, L[i]? = some x ∧ a = some ⟨b, 0, none⟩ ∧ blk W b = some C ∧ n * sz ≤ C.length ∧ seg C (i * sz) sz = en x := by
  have hx : L[i]? = some (L[i]'(by rw [h.1]; exact hi)) := List.getElem?_eq_getElem _
  obtain ⟨b, C, h1, h2, h3, h4⟩ := h.2 i _ hx
  exact ⟨_, b, C, hx, h1, h2, h3, h4⟩
/-- The hash of a name, as the program reckons it. -/
def hStep (h : Int) (x : UInt8) : Int := bits .xor .u32 h (w8 x) * 16777619 % 4294967296
def hN (s : List UInt8) : Int := s.foldl hStep 2166136261
theorem hN_snoc (s : List UInt8) (x : UInt8) : hN (s ++ [x]) = hStep (hN s) x := by unfold hN; rw [List.foldl_append]; rfl
theorem hStep_in (h : Int) (x : UInt8) : 0 ≤ hStep h x ∧ hStep h x < 4294967296 := by unfold hStep; omega
theorem hN_in (s : List UInt8) : 0 ≤ hN s ∧ hN s < 4294967296 := by
  rcases List.eq_nil_or_concat s with rfl | ⟨s', x, rfl⟩
  · exact ⟨by decide, by decide⟩
  · rw [List.concat_eq_append, hN_snoc]; exact hStep_in _ _
set_option maxRecDepth 100000 in
theorem frame20 (f : Nat → Value) : frameN 20 f = #[f 0, f 1, f 2, f 3, f 4, f 5, f 6, f 7, f 8, f 9, f 10, f 11, f 12, f 13, f 14, f 15, f 16, f 17, f 18, f 19] := by kernel_rfl
def hnI (W0 : World) (nm : List UInt8) (s : ByteArray) (f : Nat → Value) (W : World) : Prop := f 0 = .string s ∧ W = W0 ∧ ∃ (i : Nat) (h : Int), i ≤ nm.length ∧ f 4 = .int .i64 (i : Nat) ∧ f 3 = .int .u32 h ∧ Hid (h = hN (nm.take i))
attribute [local go_sem ↓] execOp_index
set_option maxRecDepth 20000 in
theorem hashName_any (W : World) (nm : List UInt8) (hl : nm.length ≤ 1000000000) : Calls Try.prog 85 #[.string ⟨nm.toArray⟩] W fun e W' => e = .returned (.int .u32 (hN nm)) ∧ W' = W := by
  obtain ⟨s, hs⟩ : ∃ s : ByteArray, s = ⟨nm.toArray⟩ := ⟨_, rfl⟩
  obtain ⟨k, hk⟩ : ∃ k, k = nm.length := ⟨_, rfl⟩
  have hss : s.size = k := by rw [hs, hk]; simp [ByteArray.size]
  have HS : Hid (s = ⟨nm.toArray⟩) := hs
  have HK : Hid (k = nm.length) := hk
  rw [← hk] at hl
  rw [← hs]
  clear hs hk
  go_enter Try.func85, Try.ntmps85
  go_wp2_with fail
  refine wp_loop_f 20 (hnI W nm s) (fun f _ => k - (intOf (f 4)).toNat) rfl ⟨rfl, rfl, 0, 2166136261, by omega, rfl, rfl, by show _ = _; rw [List.take_zero]; rfl⟩ ?_
  intro F V hrel
  obtain ⟨f0, rfl, i, h, hi, f4, f3, HH⟩ := hrel
  have H4 : Hid (F 4 = .int .i64 (i : Nat)) := f4
  rw [← HK.out] at hi
  rw [frame20, f0, f4, f3]
  clear f0 f4 f3
  by_cases hin : i < k
  · have hin' : (i : Int) < (k : Int) := by omega
    obtain ⟨x, hx⟩ : ∃ x, nm[i]? = some x := ⟨_, List.getElem?_eq_getElem (by rw [← HK.out]; exact hin)⟩
    have hix := fun w : World => index_str w nm i x hx
    rw [← HS.out] at hix
    have HX : Hid (nm[i]? = some x) := hx
    have hx8 := w8_lt x
    have hxw : IntKind.u32.wrap (w8 x) = w8 x := by rw [IntKind.wrap_u32]; unfold w8; omega
    clear hx
    go_wp2_with fail
    refine ⟨rfl, rfl, ⟨rfl, rfl, i + 1, _, by rw [← HK.out]; omega, ?_, rfl, ?_⟩, ?_⟩
    · show Value.int .i64 _ = _
      go_num
    · show _ = _
      rw [take_at HX.out, hN_snoc, ← HH.out]; rfl
    · show k - (intOf (Value.int .i64 _)).toNat < k - (intOf (F 4)).toNat
      rw [H4.out]
      simp [intOf]; omega
  · obtain rfl : i = k := by omega
    have hin' : ¬ ((i : Int) < (i : Int)) := by omega
    go_wp2_with fail
    go_ret
    refine ⟨?_, rfl⟩
    have e : h = hN nm := by
      have := HH.out
      rwa [List.take_of_length_le (by rw [HK.out]; exact Nat.le_refl _)] at this
    rw [← e]
    rfl
end Go.Proofs.Qxb6500789a
