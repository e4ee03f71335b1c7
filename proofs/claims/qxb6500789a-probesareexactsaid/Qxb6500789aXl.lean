import Derived.Test.Qxb6500789aXb
import Derived.StillTailTactics
import Derived.Deep.QuietTactic
import Derived.BigQuiet
import Derived.Deep.RegionHeld
import Derived.Deep.CutRange
import Derived.Laws.ResultCell
import Derived.Laws.Rows
import Derived.DeepKeys
import Derived.DataBytes
import Derived.Laws.StructEq
import Derived.Laws.AppendOwn
import Derived.Laws.MakeOwn
import Derived.Lib.AppendStr
set_option linter.unusedSimpArgs false
set_option linter.unusedVariables false
namespace Go.Proofs.Qxb6500789a
open Go.RowKit Go.Blk
attribute [local go_sem ↓] execOp_load execOp_store execOp_alloc
attribute [local go_sem] Try.ld29 Try.st29 Try.ld3 Try.st3 Try.ld9 Try.st9 Try.ld30 Try.st30 Try.ld34 Try.st34 Try.ld35 Try.st35 Try.ld36 Try.st36 Try.ld37 Try.st37 Try.ld44 Try.st44 Try.ld45 Try.st45 Try.ld54 Try.st54 Try.ld55 Try.st55 Try.ld74 Try.st74 Try.ld80 Try.st80 Try.ld84 Try.st84 Try.ld106 Try.st106 Try.ld107 Try.st107 Try.ld4 Try.st4 Try.ld121 Try.st121 Try.ld2 Try.st2 Try.ld5 Try.st5 Try.ld12 Try.st12 Try.ld21 Try.st21 Try.ld22 Try.st22 Try.ld24 Try.st24 Try.ld26 Try.st26 Try.ld63 Try.st63 Try.ld71 Try.st71 Try.ld103 Try.st103 Try.ld130 Try.st130 Try.ld133 Try.st133 Try.ld140 Try.st140 Try.ld152 Try.st152 Try.ld39 Try.st39 Try.ld32 Try.st32 Try.ld41 Try.st41 Try.ld47 Try.st47 Try.ld57 Try.st57 Try.ld62 Try.st62 Try.ld76 Try.st76 Try.ld82 Try.st82 Try.ld86 Try.st86 Try.ld109 Try.st109 Try.ld115 Try.st115 Try.ld123 Try.st123 Try.ld135 Try.st135 Try.al39 Try.al32 Try.al41 Try.al47 Try.al57 Try.al62 Try.al76 Try.al82 Try.al86 Try.al109 Try.al115 Try.al123 Try.al135
attribute [local go_sem] Answer.length_enc Answer.ok_enc Answer.all_get Answer.all_set Answer.code_get Answer.code_set Answer.n_get Answer.n_set Answer.name_get Answer.name_set Answer.rows_get Answer.rows_set GOp.length_enc GOp.ok_enc GOp.all_get GOp.all_set GOp.kind_get GOp.kind_set GOp.rel_get GOp.rel_set GOp.mask_get GOp.mask_set GOp.t_get GOp.t_set GOp.n_get GOp.n_set GOp.name_get GOp.name_set Store.length_enc Store.ok_enc Store.all_get Store.all_set Store.names_get Store.names_set Store.rels_get Store.rels_set GRel.length_enc GRel.ok_enc GRel.all_get GRel.all_set GRel.arity_get GRel.arity_set GRel.masks_get GRel.masks_set GRel.rows_get GRel.rows_set Row.length_enc Row.ok_enc Row.all_get Row.all_set Row.t_get Row.t_set Row.mark_get Row.mark_set View.length_enc View.ok_enc View.all_get View.all_set View.names_get View.names_set View.rels_get View.rels_set Symtab.length_enc Symtab.ok_enc Symtab.all_get Symtab.all_set Symtab.names_get Symtab.names_set Symtab.table_get Symtab.table_set StoreTuplestore.length_enc StoreTuplestore.ok_enc StoreTuplestore.all_get StoreTuplestore.all_set StoreTuplestore.syms_get StoreTuplestore.syms_set StoreTuplestore.rels_get StoreTuplestore.rels_set StoreTuplestore.syms_names_get StoreTuplestore.syms_names_set StoreTuplestore.syms_table_get StoreTuplestore.syms_table_set Relation.length_enc Relation.ok_enc Relation.all_get Relation.all_set Relation.arity_get Relation.arity_set Relation.slots_get Relation.slots_set Relation.live_get Relation.live_set Relation.idx_get Relation.idx_set Slot.length_enc Slot.ok_enc Slot.all_get Slot.all_set Slot.t_get Slot.t_set Slot.mark_get Slot.mark_set Slot.live_get Slot.live_set RelView.length_enc RelView.ok_enc RelView.all_get RelView.all_set RelView.arity_get RelView.arity_set RelView.rows_get RelView.rows_set RelView.marks_get RelView.marks_set RelView.indexed_get RelView.indexed_set Index.length_enc Index.ok_enc Index.all_get Index.all_set Index.mask_get Index.mask_set Index.heads_get Index.heads_set Index.next_get Index.next_set
attribute [local go_sem] size_put size_ext blk_put free_put blk_alloc free_alloc blk_drew free_drew blk_ext free_ext lookOr_some putOr_some segAt_some cellAt_some storeIn_some put_put put_alloc_new length_arr ok_arr_u8 ok_arr_u32 ok_arr_u64 ok_arr_i64 ok_arr_sl cellsV_agg cellsV_int cellsV_bool cellsV_string cellsV_pointer cellsV_slice cellsV_sl ok_int ok_bool ok_string ok_pointer ok_slice ok_sl toList_arr seg_arr set_arr nth_splice nth_splice0 seg_splice seg_splice0 splice_splice splice_splice0 length_splice_if
attribute [local go_sem ↓] execOp_box
attribute [local go_sem] box_run nth_arr_u8 put_arr_u8 blk_drewN free_drewN put_drewN blk_raw free_raw
/-- What a block is for. -/
inductive Lab where
  | no | st | names | table | rels
  | slots (i : Nat) | idx (i : Nat) | heads (i j : Nat) | next (i j : Nat) | cl (n : Nat)
abbrev Own := Nat → Lab
def lab (O : Own) (n : Nat) (l : Lab) : Own := fun k => if k < n then O k else l
theorem lab_lt {O : Own} {n : Nat} {l : Lab} {k : Nat} (h : k < n) : lab O n l k = O k := if_pos h
theorem lab_ge {O : Own} {n : Nat} {l : Lab} {k : Nat} (h : n ≤ k) : lab O n l k = l := if_neg (by omega)
/-- What may change: blocks whose label is in L, and new ones. -/
structure Fr (L : Lab → Prop) (O : Own) (W : World) (O' : Own) (W' : World) : Prop where
  os : W'.os = W.os
  tape : W'.tape = W.tape
  output : W'.output = W.output
  size : W.heap.size ≤ W'.heap.size
  keep : ∀ k, k < W.heap.size → O' k = O k
  block : ∀ k, k < W.heap.size → ¬ L (O k) → W'.heap[k]? = W.heap[k]?
theorem Fr.refl (L : Lab → Prop) (O : Own) (W : World) : Fr L O W O W := ⟨rfl, rfl, rfl, Nat.le_refl _, fun _ _ => rfl, fun _ _ _ => rfl⟩
theorem Fr.trans {L : Lab → Prop} {O O' O'' : Own} {W W' W'' : World} (h : Fr L O W O' W') (h' : Fr L O' W' O'' W'') : Fr L O W O'' W'' :=
  ⟨h'.os.trans h.os, h'.tape.trans h.tape, h'.output.trans h.output, Nat.le_trans h.size h'.size, fun k hk => (h'.keep k (Nat.lt_of_lt_of_le hk h.size)).trans (h.keep k hk), fun k hk hl => (h'.block k (Nat.lt_of_lt_of_le hk h.size) (by rw [h.keep k hk]; exact hl)).trans (h.block k hk hl)⟩
theorem Fr.mono {L L' : Lab → Prop} {O O' : Own} {W W' : World} (h : Fr L O W O' W') (hl : ∀ l, L l → L' l) : Fr L' O W O' W' :=
  ⟨h.os, h.tape, h.output, h.size, h.keep, fun k hk hn => h.block k hk fun h1 => hn (hl _ h1)⟩
theorem Fr.drewN {L : Lab → Prop} {O O' : Own} {W W' : World} (h : Fr L O W O' W') (n : Nat) : Fr L O W O' (W'.drewN n) := ⟨h.os, h.tape, h.output, h.size, h.keep, h.block⟩
theorem Fr.drew {L : Lab → Prop} {O O' : Own} {W W' : World} (h : Fr L O W O' W') : Fr L O W O' W'.drew := ⟨h.os, h.tape, h.output, h.size, h.keep, h.block⟩
theorem Fr.of_drewN {L : Lab → Prop} {O O' : Own} {W W' : World} {n : Nat} (h : Fr L O (W.drewN n) O' W') : Fr L O W O' W' := ⟨h.os, h.tape, h.output, h.size, h.keep, h.block⟩
theorem Fr.put {L : Lab → Prop} {O O' : Own} {W W' : World} (h : Fr L O W O' W') {b : Nat} (hb : L (O' b)) (C : List Value) : Fr L O W O' (Blk.put W' b C) := by
  refine ⟨h.os, h.tape, h.output, by rw [size_put]; exact h.size, h.keep, fun k hk hn => ?_⟩
  rw [heap_put, if_neg (fun e : k = b => hn (by rw [← h.keep k hk, e]; exact hb))]
  exact h.block k hk hn
theorem Fr.put_new {L : Lab → Prop} {O O' : Own} {W W' : World} (h : Fr L O W O' W') {b : Nat} (hb : W.heap.size ≤ b) (C : List Value) : Fr L O W O' (Blk.put W' b C) := by
  refine ⟨h.os, h.tape, h.output, by rw [size_put]; exact h.size, h.keep, fun k hk hn => ?_⟩
  rw [heap_put, if_neg (by omega)]
  exact h.block k hk hn
theorem Fr.of_extends {L : Lab → Prop} {O : Own} {W W' : World} (h : W.Extends W') : Fr L O W O W' := ⟨h.os, h.tape, h.output, h.size, fun _ _ => rfl, fun k hk _ => h.block k hk⟩
theorem Fr.relab {L : Lab → Prop} {O O' : Own} {W W' : World} (h : Fr L O W O' W') (l : Lab) : Fr L O W (lab O' W'.heap.size l) W' := ⟨h.os, h.tape, h.output, h.size, fun k hk => (lab_lt (Nat.lt_of_lt_of_le hk h.size)).trans (h.keep k hk), h.block⟩
theorem Fr.blk {L : Lab → Prop} {O O' : Own} {W W' : World} (h : Fr L O W O' W') {k : Nat} {C : List Value} (hk : blk W k = some C) (hl : ¬ L (O k)) : blk W' k = some C := (blk_of_heap (h.block k (blk_lt hk) hl)).trans hk
theorem Fr.free {L : Lab → Prop} {O O' : Own} {W W' : World} (h : Fr L O W O' W') {k : Nat} {C : List Value} (hk : Blk.blk W k = some C) (hf : Blk.free W k = true) (hl : ¬ L (O k)) : Blk.free W' k = true := (free_of_heap (h.block k (blk_lt hk) hl)).trans hf
theorem Fr.extends {L : Lab → Prop} {O O' : Own} {w0 W W' : World} (h : Fr L O W O' W') (he : w0.Extends W) (hd : ∀ k, k < w0.heap.size → ¬ L (O k)) : w0.Extends W' := by
  have hb : ∀ i, i < w0.heap.size → W'.heap[i]? = w0.heap[i]? := fun i hi => (h.block i (Nat.lt_of_lt_of_le hi he.size) (hd i hi)).trans (he.block i hi)
  exact ⟨h.os.trans he.os, h.tape.trans he.tape, h.output.trans he.output, Nat.le_trans he.size h.size, fun a ha => World.cell?_of_block (hb _ ha), fun a ha => World.frozen?_of_block (hb _ ha), hb⟩
theorem Fr.grown {O : Own} {l : Lab} {W W' : World} {v : Value} (hg : W.grownBy W' v.ownBlock) (hl : ∀ k, v.ownBlock = some k → O k = l) : Fr (fun x => x = l) O W (lab O W.heap.size l) W' :=
  ⟨hg.os, hg.tape, hg.output, hg.size, fun k hk => lab_lt hk, fun k hk hn => hg.block k hk (fun e => hn (hl k e.symm))⟩
/-- A row with its label. -/
def RowL (B : Nat) (O : Own) (l : Lab) (W : World) (e : TypeId) (sz : Nat) (v : Value) (n : Nat) (xs : List Value) : Prop := W.ownsRow B e sz v n xs ∧ ∀ k, v.ownBlock = some k → O k = l
theorem RowL.keep {B : Nat} {O O' : Own} {l : Lab} {W W' : World} {e : TypeId} {sz : Nat} {v : Value} {n : Nat} {xs : List Value} (h : RowL B O l W e sz v n xs) (hw : ∀ k, k < W.heap.size → O k = l → W'.heap[k]? = W.heap[k]? ∧ O' k = O k) : RowL B O' l W' e sz v n xs :=
  ⟨row_keep h.1 (fun k hk => (hw k (row_at h.1 k hk).2.1 (h.2 k hk)).1), fun k hk => ((hw k (row_at h.1 k hk).2.1 (h.2 k hk)).2).trans (h.2 k hk)⟩
theorem RowL.fr {L : Lab → Prop} {B : Nat} {O O' : Own} {l : Lab} {W W' : World} {e : TypeId} {sz : Nat} {v : Value} {n : Nat} {xs : List Value} (h : RowL B O l W e sz v n xs) (hf : Fr L O W O' W') (hl : ¬ L l) : RowL B O' l W' e sz v n xs :=
  h.keep (fun k hk ho => ⟨hf.block k hk (by rw [ho]; exact hl), hf.keep k hk⟩)
theorem RowL.nil (B : Nat) (O : Own) (l : Lab) (W : World) (e : TypeId) (sz : Nat) : RowL B O l W e sz (.slice none 0 0) 0 [] := ⟨⟨by simp, .inl ⟨rfl, rfl⟩⟩, fun k hk => by simp [Value.ownBlock] at hk⟩
theorem RowL.rw {α : Type} {e : α → List Value} {sz : Nat} (hsz : ∀ x, (e x).length = sz) {B : Nat} {O : Own} {l : Lab} {W : World} {ty : TypeId} {a : Option Addr} {n c : Nat} {K : List α} (h : RowL B O l W ty sz (.slice a n c) K.length (K.flatMap e)) : Rw e sz W a n K ∧ n ≤ c ∧ c ≤ maxLen := rw_own hsz h.1
theorem flat_take {α : Type} (en : α → List Value) (sz : Nat) (hsz : ∀ x, (en x).length = sz) : ∀ (K : List α) (D : List Value), K.length * sz ≤ D.length → (∀ i x, K[i]? = some x → seg D (i * sz) sz = en x) → D.take (K.length * sz) = K.flatMap en
  | [], D, _, _ => by simp
  | x :: K, D, hl, h => by
    have h0 := h 0 x rfl
    have ih := flat_take en sz hsz K (D.drop sz) (by rw [List.length_drop]; rw [List.length_cons, Nat.add_mul] at hl; omega) (fun i y hy => by
      have := h (i + 1) y (by simpa using hy)
      unfold seg at this ⊢
      rw [List.drop_drop, show sz + i * sz = (i + 1) * sz by rw [Nat.add_mul]; omega]
      exact this)
    rw [List.flatMap_cons, ← ih, ← h0, List.length_cons, Nat.add_mul, Nat.one_mul, Nat.add_comm, Nat.zero_mul]
    unfold seg
    rw [List.drop_zero, List.take_add]
theorem RowL.open {α : Type} {en : α → List Value} {sz : Nat} (hsz : ∀ x, (en x).length = sz) {B : Nat} {O : Own} {l : Lab} {W : World} {ty : TypeId} {a : Option Addr} {n c : Nat} {K : List α} (h : RowL B O l W ty sz (.slice a n c) K.length (K.flatMap en)) (hn : 0 < n) :
    ∃ g C, a = some ⟨g, 0, none⟩ ∧ blk W g = some C ∧ free W g = true ∧ n * sz ≤ C.length ∧ O g = l ∧ B ≤ g ∧ K.length = n ∧ (∀ i x, K[i]? = some x → seg C (i * sz) sz = en x) ∧
    ∀ (D : List Value) (K' : List α), D.length = C.length → K'.length = K.length → (∀ i x, K'[i]? = some x → seg D (i * sz) sz = en x) → RowL B O l (put W g D) ty sz (.slice a n c) K'.length (K'.flatMap en) := by
  have hr := (rw_own hsz h.1).1
  obtain ⟨⟨h1, h2 | ⟨g, cap, cur, e1, e2, e3, e4, e5, e6, e7⟩⟩, hl⟩ := h
  · have := hr.1; omega
  · injection e1 with e1a e1b e1c
    subst e1a
    subst e1c
    have hg : O g = l := hl g rfl
    have hle : K.length * sz ≤ c * sz := Nat.mul_le_mul_right _ e4
    refine ⟨g, cur.toList, rfl, blk_mk e3, free_mk e3, by rw [Array.length_toList, e6, ← hr.1]; exact hle, hg, e2, hr.1, fun i x hx => ?_, fun D K' hD hK' hs => ?_⟩
    · obtain ⟨b, C, q1, q2, q3, q4⟩ := hr.2 i x hx
      injection q1 with q1; injection q1 with q1
      subst q1
      rw [blk_mk e3] at q2
      injection q2 with q2
      rw [q2]; exact q4
    · have hcl : cur.toList.length = c * sz := by rw [Array.length_toList]; exact e6
      have hDl : K'.length * sz ≤ D.length := by rw [hD, hcl, hK']; exact hle
      have hft := flat_take en sz hsz K' D hDl hs
      refine ⟨⟨?_, .inr ⟨g, c, D.toArray, by rw [hK', e1b], e2, ?_, by rw [hK']; exact e4, e5, by rw [List.size_toArray, hD, hcl], hft⟩⟩, fun k hk => ?_⟩
      · rw [← hft, List.length_take]; omega
      · rw [heap_put, if_pos rfl, e3]; rfl
      · simp [Value.ownBlock] at hk; rw [← hk]; exact hg
/-- One thing appended to a labelled row. -/
theorem appL {α : Type} (en : α → List Value) (sz bytes : Nat) (t e : TypeId) (ht : Try.prog.underlying t = some (.slice e)) (hinfo : ∃ i z, Try.prog.info? e = some i ∧ i.zero = some z ∧ i.size = sz ∧ i.bytes = bytes ∧ z.cells.size = sz) (hln : ∀ x, (en x).length = sz) (hone : ∀ x, (en x).all (fun v => v.oneCell') = true) (hsz : 0 < sz) (hb1 : bytes ≤ 1000)
    {B : Nat} {O : Own} {l : Lab} {W : World} (ty : TypeId) {a : Option Addr} {n c : Nat} {K : List α} (x : α) (h : RowL B O l W e sz (.slice a n c) K.length (K.flatMap en)) (hB : B ≤ W.heap.size) (hl : K.length ≤ 10000000000) (A : Array Value) (hA : A = (en x).toArray) (c1 : Nat) :
    ∃ a' c' W', (Builtin.append_ #[t, t] ty #[.slice a n c, .slice (some ⟨W.heap.size, 0, none⟩) 1 c1]).run Try.prog (W.alloc (.cells A e)) = .ok (.slice a' (n + 1) c') W' ∧ RowL B (lab O W.heap.size l) l W' e sz (.slice a' (n + 1) c') (K ++ [x]).length ((K ++ [x]).flatMap en) ∧ Fr (fun y => y = l) O W (lab O W.heap.size l) W' := by
  subst hA
  have hx1 : W.Extends (W.alloc (.cells (en x).toArray e)) := extends_alloc (ext_Ext (Ext.refl _)) _
  have hrow := row_keep h.1 (fun k hk => hx1.block k (row_at h.1 k hk).2.1)
  obtain ⟨v', W', hr, ho, hg, hbk⟩ := appG en sz bytes t e ht hinfo hln hone hsz hb1 B (W.alloc (.cells (en x).toArray e)) ty (.slice a n c) K x W.heap.size c1 hrow ((blk_alloc _ _ _ _).trans (if_pos rfl)) (Nat.le_trans hB hx1.size) hl
  obtain ⟨a', c', rfl⟩ := row_val ho
  have hKn : K.length = n := (rw_own hln h.1).1.1
  have hm : (K ++ [x]).length = n + 1 := by rw [List.length_append, List.length_singleton, hKn]
  rw [hm] at hr ho hbk
  have hsz1 : W.heap.size ≤ (W.alloc (.cells (en x).toArray e)).heap.size := hx1.size
  refine ⟨a', c', W', hr, ⟨by rw [hm]; exact ho, fun k hk => ?_⟩, ?_⟩
  · rcases hbk with hbk | hbk
    · rw [hbk] at hk
      rw [lab_lt (row_at h.1 k hk).2.1]
      exact h.2 k hk
    · rw [hbk] at hk
      have : k = (W.alloc (.cells (en x).toArray e)).heap.size := (Option.some.inj hk).symm
      exact lab_ge (by omega)
  · have f1 := Fr.of_extends (L := fun y => y = l) (O := O) hx1
    refine ⟨hg.os.trans f1.os, hg.tape.trans f1.tape, hg.output.trans f1.output, Nat.le_trans hsz1 hg.size, fun k hk => lab_lt hk, fun k hk hn => ?_⟩
    exact (hg.block k (by omega) (fun e1 => hn (h.2 k e1.symm))).trans (hx1.block k hk)
end Go.Proofs.Qxb6500789a
