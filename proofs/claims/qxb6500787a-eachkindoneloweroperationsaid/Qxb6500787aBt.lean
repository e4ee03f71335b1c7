import Derived.Test.Qxb6500787aRow
import Derived.StillTailTactics
import Derived.Deep.QuietTactic
import Derived.BigQuiet
import Derived.Deep.RegionHeld
import Derived.Deep.CutRange
import Derived.Laws.ResultCell
import Derived.Laws.Rows
import Derived.DeepKeys
import Derived.DataBytes
import Derived.Laws.StructEq
import Derived.Laws.AppendOwn
import Derived.Laws.MakeOwn
set_option linter.unusedSimpArgs false
set_option linter.unusedVariables false
namespace Go.Proofs.Qxb6500787a
open Go.RowKit Go.Blk
attribute [local go_sem ↓] execOp_load execOp_store execOp_alloc
attribute [local go_sem] Try.ld26 Try.st26 Try.ld27 Try.st27 Try.ld28 Try.st28 Try.ld3 Try.st3 Try.ld29 Try.st29 Try.ld4 Try.st4 Try.ld50 Try.st50 Try.ld68 Try.st68 Try.ld9 Try.st9 Try.ld2 Try.st2 Try.ld5 Try.st5 Try.ld12 Try.st12 Try.ld21 Try.st21 Try.ld22 Try.st22 Try.ld24 Try.st24 Try.ld32 Try.st32 Try.ld40 Try.st40 Try.ld44 Try.st44 Try.ld49 Try.st49 Try.ld58 Try.st58 Try.ld63 Try.st63 Try.ld97 Try.st97 Try.ld101 Try.st101 Try.ld116 Try.st116 Try.ld121 Try.st121 Try.ld135 Try.st135 Try.ld136 Try.st136 Try.ld138 Try.st138 Try.ld139 Try.st139 Try.ld142 Try.st142 Try.ld143 Try.st143 Try.ld146 Try.st146 Try.ld148 Try.st148 Try.ld154 Try.st154 Try.ld159 Try.st159 Try.ld173 Try.st173 Try.ld183 Try.st183 Try.ld184 Try.st184 Try.ld187 Try.st187 Try.ld192 Try.st192 Try.ld195 Try.st195 Try.ld217 Try.st217 Try.ld222 Try.st222 Try.ld241 Try.st241 Try.ld248 Try.st248 Try.ld268 Try.st268 Try.ld272 Try.st272 Try.ld129 Try.st129 Try.ld31 Try.st31 Try.ld52 Try.st52 Try.ld70 Try.st70 Try.ld74 Try.st74 Try.ld93 Try.st93 Try.al129 Try.al31 Try.al52 Try.al70 Try.al74 Try.al93
attribute [local go_sem] Request.length_enc Request.ok_enc Request.all_get Request.all_set Request.kind_get Request.kind_set Request.blob_get Request.blob_set Request.items_get Request.items_set Request.pred_get Request.pred_set Request.slots_get Request.slots_set Item.length_enc Item.ok_enc Item.all_get Item.all_set Item.del_get Item.del_set Item.pred_get Item.pred_set Item.args_get Item.args_set GOp.length_enc GOp.ok_enc GOp.all_get GOp.all_set GOp.kind_get GOp.kind_set GOp.raw_get GOp.raw_set Reader.length_enc Reader.ok_enc Reader.all_get Reader.all_set Reader.buf_get Reader.buf_set Reader.at__get Reader.at__set Slot.length_enc Slot.ok_enc Slot.all_get Slot.all_set Slot.bound_get Slot.bound_set Slot.name_get Slot.name_set
attribute [local go_sem] size_put size_ext blk_put free_put blk_alloc free_alloc blk_drew free_drew blk_ext free_ext lookOr_some putOr_some segAt_some cellAt_some storeIn_some put_put put_alloc_new length_arr ok_arr_u8 ok_arr_u32 ok_arr_u64 ok_arr_i64 ok_arr_sl cellsV_agg cellsV_int cellsV_bool cellsV_string cellsV_pointer cellsV_slice cellsV_sl ok_int ok_bool ok_string ok_pointer ok_slice ok_sl toList_arr seg_arr set_arr nth_splice nth_splice0 seg_splice seg_splice0 splice_splice splice_splice0 length_splice_if
attribute [local go_sem ↓] execOp_box
attribute [local go_sem] box_run nth_arr_u8 put_arr_u8 blk_drewN free_drewN put_drewN blk_raw free_raw
def convOp (s d : TypeId) (v : Value) : Sem Next := do pure (.value (← convert s d v))
theorem execOp_convert (a : Act) (dst : Option Tmp) (x : Operand) (ty : TypeId) (pos : String) (after : Array Edge) (guard : Option (Nat × Bool)) :
    execOp a.eval { dst, op := .convert 27 9 x, type := ty, pos, after, guard } = convOp 27 9 (a.eval x) := rfl
def Bs (W : World) (a : Option Addr) (n : Nat) (xs : List UInt8) : Prop := xs.length = n ∧ (n ≠ 0 → ∃ b o C, a = some ⟨b, o, none⟩ ∧ blk W b = some C ∧ o + n ≤ C.length ∧ seg C o n = bv xs) ∧ (a = none ∨ ∃ b o, a = some ⟨b, o, none⟩)
theorem bv_at (xs : List UInt8) (i : Nat) : (bv xs)[i]? = (xs[i]?).map u8v := by simp [bv]
theorem Bs.get {W : World} {a : Option Addr} {n : Nat} {xs : List UInt8} (h : Bs W a n xs) {i : Nat} (hi : i < n) : ∃ b o C x, a = some ⟨b, o, none⟩ ∧ blk W b = some C ∧ o + n ≤ C.length ∧ xs[i]? = some x ∧ nth C (o + i) = some (.int .u8 (w8 x)) := by
  obtain ⟨b, o, C, h1, h2, h3, h4⟩ := h.2.1 (by omega)
  have hx : xs[i]? = some (xs[i]'(by rw [h.1]; exact hi)) := List.getElem?_eq_getElem _
  refine ⟨b, o, C, _, h1, h2, h3, hx, ?_⟩
  have h5 := seg_nth C o n i
  rw [h4, bv_at, hx, if_pos hi] at h5
  exact h5.symm
theorem Bs.grow {W W' : World} {a : Option Addr} {n : Nat} {xs : List UInt8} (h : Bs W a n xs) (he : W.Extends W') : Bs W' a n xs := by
  refine ⟨h.1, fun h0 => ?_, h.2.2⟩
  obtain ⟨b, o, C, h1, h2, h3⟩ := h.2.1 h0
  exact ⟨b, o, C, h1, (he.blk (blk_lt h2)).trans h2, h3⟩
theorem cutA_form {a : Option Addr} (h : a = none ∨ ∃ b o, a = some ⟨b, o, none⟩) (l cap : Nat) : cutA a l cap = none ∨ ∃ b o, cutA a l cap = some ⟨b, o, none⟩ := by
  unfold cutA
  split
  · exact h
  · rcases h with rfl | ⟨b, o, rfl⟩
    · exact .inl rfl
    · exact .inr ⟨b, o + l, by show some ((⟨b, o, none⟩ : Addr).add l) = _; rw [add_addr]⟩
theorem Bs.cut {W : World} {a : Option Addr} {n : Nat} {xs : List UInt8} (h : Bs W a n xs) {l k cap : Nat} (hl : l + k ≤ n) (hc : n ≤ cap) : Bs W (cutA a l cap) k ((xs.drop l).take k) := by
  refine ⟨by rw [List.length_take, List.length_drop, h.1]; omega, fun h0 => ?_, cutA_form h.2.2 l cap⟩
  obtain ⟨b, o, C, rfl, h2, h3, h4⟩ := h.2.1 (by omega)
  refine ⟨b, o + l, C, ?_, h2, by omega, ?_⟩
  · unfold cutA
    rw [if_neg (by omega)]
    show some ((⟨b, o, none⟩ : Addr).add l) = _
    rw [add_addr]
  · rw [seg_in h4 (by omega)]
    unfold seg bv
    rw [List.map_take, List.map_drop]
theorem conv_str {W : World} {a : Option Addr} {n c : Nat} {xs : List UInt8} (h : Bs W a n xs) : (convOp 27 9 (.slice a n c)).run Try.prog W = .ok (.value (.string ⟨xs.toArray⟩)) W := by
  by_cases h0 : n = 0
  · subst h0
    obtain rfl : xs = [] := List.eq_nil_of_length_eq_zero h.1
    unfold convOp
    rcases h.2.2 with rfl | ⟨b, o, rfl⟩
    · rw [Sem.run_bind, run_convert_bytes_nil (P := Try.prog) W 27 5 Try.underlying27 Try.underlying5 0 c 9 Try.underlying9]
      rfl
    · rw [Sem.run_bind, run_convert_bytes_arg (P := Try.prog) W 27 5 Try.underlying27 Try.underlying5 b o 0 c [] rfl (fun i hi => absurd hi (Nat.not_lt_zero _)) 9 Try.underlying9]
      rfl
  · obtain ⟨b, o, C, rfl, h2, h3, h4⟩ := h.2.1 h0
    have hc := run_convert_bytes_arg (P := Try.prog) W 27 5 Try.underlying27 Try.underlying5 b o n c (xs.map fun x => (x.toNat : Int)) (by simp [h.1]) (by
      intro i hi
      rw [cell_blk h2]
      have h5 := seg_nth C o n i
      rw [h4, bv_at, if_pos hi] at h5
      have : C[o + i]? = nth C (o + i) := rfl
      have hl : i < xs.length := by rw [h.1]; exact hi
      rw [this, ← h5, List.getElem?_eq_getElem hl]
      simp [u8v, w8, hl]) 9 Try.underlying9
    unfold convOp
    rw [Sem.run_bind, hc]
    simp [strOfNums, Function.comp_def]
end Go.Proofs.Qxb6500787a
