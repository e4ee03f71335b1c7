
import Derived.Test.Qxb6500787aGreatRow
import Derived.StillTailTactics
import Derived.Deep.QuietTactic
import Derived.BigQuiet
import Derived.Deep.RegionHeld
import Derived.Deep.CutRange
import Derived.Laws.ResultCell
import Derived.Laws.Rows
import Derived.DeepKeys
import Derived.DataBytes
import Derived.Laws.StructEq
import Derived.Laws.AppendOwn
import Derived.Laws.MakeOwn
set_option linter.unusedSimpArgs false
set_option linter.unusedVariables false
namespace Go.Proofs.Qxb6500787aGreat
open Go.RowKit Go.Blk
attribute [local go_sem ↓] execOp_load execOp_store execOp_alloc
attribute [local go_sem] Tryz.ld26 Tryz.st26 Tryz.ld27 Tryz.st27 Tryz.ld28 Tryz.st28 Tryz.ld3 Tryz.st3 Tryz.ld29 Tryz.st29 Tryz.ld4 Tryz.st4 Tryz.ld50 Tryz.st50 Tryz.ld68 Tryz.st68 Tryz.ld9 Tryz.st9 Tryz.ld2 Tryz.st2 Tryz.ld5 Tryz.st5 Tryz.ld12 Tryz.st12 Tryz.ld21 Tryz.st21 Tryz.ld22 Tryz.st22 Tryz.ld24 Tryz.st24 Tryz.ld32 Tryz.st32 Tryz.ld40 Tryz.st40 Tryz.ld44 Tryz.st44 Tryz.ld49 Tryz.st49 Tryz.ld58 Tryz.st58 Tryz.ld97 Tryz.st97 Tryz.ld101 Tryz.st101 Tryz.ld116 Tryz.st116 Tryz.ld121 Tryz.st121 Tryz.ld135 Tryz.st135 Tryz.ld136 Tryz.st136 Tryz.ld138 Tryz.st138 Tryz.ld139 Tryz.st139 Tryz.ld142 Tryz.st142 Tryz.ld143 Tryz.st143 Tryz.ld146 Tryz.st146 Tryz.ld148 Tryz.st148 Tryz.ld154 Tryz.st154 Tryz.ld159 Tryz.st159 Tryz.ld173 Tryz.st173 Tryz.ld183 Tryz.st183 Tryz.ld184 Tryz.st184 Tryz.ld187 Tryz.st187 Tryz.ld192 Tryz.st192 Tryz.ld195 Tryz.st195 Tryz.ld217 Tryz.st217 Tryz.ld222 Tryz.st222 Tryz.ld241 Tryz.st241 Tryz.ld248 Tryz.st248 Tryz.ld268 Tryz.st268 Tryz.ld272 Tryz.st272 Tryz.ld129 Tryz.st129 Tryz.ld31 Tryz.st31 Tryz.ld52 Tryz.st52 Tryz.ld70 Tryz.st70 Tryz.ld74 Tryz.st74 Tryz.ld93 Tryz.st93 Tryz.al129 Tryz.al31 Tryz.al52 Tryz.al70 Tryz.al74 Tryz.al93
attribute [local go_sem] Request.length_enc Request.ok_enc Request.all_get Request.all_set Request.kind_get Request.kind_set Request.blob_get Request.blob_set Request.items_get Request.items_set Request.pred_get Request.pred_set Request.slots_get Request.slots_set Item.length_enc Item.ok_enc Item.all_get Item.all_set Item.del_get Item.del_set Item.pred_get Item.pred_set Item.args_get Item.args_set GOp.length_enc GOp.ok_enc GOp.all_get GOp.all_set GOp.kind_get GOp.kind_set GOp.raw_get GOp.raw_set Reader.length_enc Reader.ok_enc Reader.all_get Reader.all_set Reader.buf_get Reader.buf_set Reader.at__get Reader.at__set Slot.length_enc Slot.ok_enc Slot.all_get Slot.all_set Slot.bound_get Slot.bound_set Slot.name_get Slot.name_set
attribute [local go_sem] size_put size_ext blk_put free_put blk_alloc free_alloc blk_drew free_drew blk_ext free_ext lookOr_some putOr_some segAt_some cellAt_some storeIn_some put_put put_alloc_new length_arr ok_arr_u8 ok_arr_u32 ok_arr_u64 ok_arr_i64 ok_arr_sl cellsV_agg cellsV_int cellsV_bool cellsV_string cellsV_pointer cellsV_slice cellsV_sl ok_int ok_bool ok_string ok_pointer ok_slice ok_sl toList_arr seg_arr set_arr nth_splice nth_splice0 seg_splice seg_splice0 splice_splice splice_splice0 length_splice_if
attribute [local go_sem ↓] execOp_box
attribute [local go_sem] box_run nth_arr_u8 put_arr_u8 blk_drewN free_drewN put_drewN blk_raw free_raw
def convOp (s d : TypeId) (v : Value) : Sem Next := do pure (.value (← convert s d v))
theorem execOp_convert (a : Act) (dst : Option Tmp) (x : Operand) (ty : TypeId) (pos : String) (after : Array Edge) (guard : Option (Nat × Bool)) :
    execOp a.eval { dst, op := .convert 31 9 x, type := ty, pos, after, guard } = convOp 31 9 (a.eval x) := rfl
def Bs (W : World) (a : Option Addr) (n : Nat) (xs : List UInt8) : Prop := xs.length = n ∧ (n ≠ 0 → ∃ b o C, a = some ⟨b, o, none⟩ ∧ blk W b = some C ∧ o + n ≤ C.length ∧ seg C o n = bv xs) ∧ (a = none ∨ ∃ b o, a = some ⟨b, o, none⟩)
theorem bv_at (xs : List UInt8) (i : Nat) : (bv xs)[i]? = (xs[i]?).map u8v := by simp [bv]
theorem Bs.get {W : World} {a : Option Addr} {n : Nat} {xs : List UInt8} (h : Bs W a n xs) {i : Nat} (hi : i < n) : ∃ b o C x, a = some ⟨b, o, none⟩ ∧ blk W b = some C ∧ o + n ≤ C.length ∧ xs[i]? = some x ∧ nth C (o + i) = some (.int .u8 (w8 x)) := by
  obtain ⟨b, o, C, h1, h2, h3, h4⟩ := h.2.1 (by omega)
  have hx : xs[i]? = some (xs[i]'(by rw [h.1]; exact hi)) := List.getElem?_eq_getElem _
  refine ⟨b, o, C, _, h1, h2, h3, hx, ?_⟩
  have h5 := seg_nth C o n i
  rw [h4, bv_at, hx, if_pos hi] at h5
  exact h5.symm
theorem Bs.grow {W W' : World} {a : Option Addr} {n : Nat} {xs : List UInt8} (h : Bs W a n xs) (he : W.Extends W') : Bs W' a n xs := by
  refine ⟨h.1, fun h0 => ?_, h.2.2⟩
  obtain ⟨b, o, C, h1, h2, h3⟩ := h.2.1 h0
  exact ⟨b, o, C, h1, (he.blk (blk_lt h2)).trans h2, h3⟩
theorem cutA_form {a : Option Addr} (h : a = none ∨ ∃ b o, a = some ⟨b, o, none⟩) (l cap : Nat) : cutA a l cap = none ∨ ∃ b o, cutA a l cap = some ⟨b, o, none⟩ := by
  unfold cutA
  split
  · exact h
  · rcases h with rfl | ⟨b, o, rfl⟩
    · exact .inl rfl
    · exact .inr ⟨b, o + l, by show some ((⟨b, o, none⟩ : Addr).add l) = _; rw [add_addr]⟩
theorem Bs.cut {W : World} {a : Option Addr} {n : Nat} {xs : List UInt8} (h : Bs W a n xs) {l k cap : Nat} (hl : l + k ≤ n) (hc : n ≤ cap) : Bs W (cutA a l cap) k ((xs.drop l).take k) := by
  refine ⟨by rw [List.length_take, List.length_drop, h.1]; omega, fun h0 => ?_, cutA_form h.2.2 l cap⟩
  obtain ⟨b, o, C, rfl, h2, h3, h4⟩ := h.2.1 (by omega)
  refine ⟨b, o + l, C, ?_, h2, by omega, ?_⟩
  · unfold cutA
    rw [if_neg (by omega)]
    show some ((⟨b, o, none⟩ : Addr).add l) = _
    rw [add_addr]
  · rw [seg_in h4 (by omega)]
    unfold seg bv
    rw [List.map_take, List.map_drop]
theorem conv_str {W : World} {a : Option Addr} {n c : Nat} {xs : List UInt8} (h : Bs W a n xs) : (convOp 31 9 (.slice a n c)).run Tryz.prog W = .ok (.value (.string ⟨xs.toArray⟩)) W := by
  by_cases h0 : n = 0
  · subst h0
    obtain rfl : xs = [] := List.eq_nil_of_length_eq_zero h.1
    unfold convOp
    rcases h.2.2 with rfl | ⟨b, o, rfl⟩
    · rw [Sem.run_bind, run_convert_bytes_nil (P := Tryz.prog) W 31 5 Tryz.underlying31 Tryz.underlying5 0 c 9 Tryz.underlying9]
      rfl
    · rw [Sem.run_bind, run_convert_bytes_arg (P := Tryz.prog) W 31 5 Tryz.underlying31 Tryz.underlying5 b o 0 c [] rfl (fun i hi => absurd hi (Nat.not_lt_zero _)) 9 Tryz.underlying9]
      rfl
  · obtain ⟨b, o, C, rfl, h2, h3, h4⟩ := h.2.1 h0
    have hc := run_convert_bytes_arg (P := Tryz.prog) W 31 5 Tryz.underlying31 Tryz.underlying5 b o n c (xs.map fun x => (x.toNat : Int)) (by simp [h.1]) (by
      intro i hi
      rw [cell_blk h2]
      have h5 := seg_nth C o n i
      rw [h4, bv_at, if_pos hi] at h5
      have : C[o + i]? = nth C (o + i) := rfl
      have hl : i < xs.length := by rw [h.1]; exact hi
      rw [this, ← h5, List.getElem?_eq_getElem hl]
      simp [u8v, w8, hl]) 9 Tryz.underlying9
    unfold convOp
    rw [Sem.run_bind, hc]
    simp [strOfNums, Function.comp_def]
end Go.Proofs.Qxb6500787aGreat
