
import Derived.Test.Qxb6500787aGreatRu
import Derived.StillTailTactics
import Derived.Deep.QuietTactic
import Derived.BigQuiet
import Derived.Deep.RegionHeld
import Derived.Deep.CutRange
import Derived.Laws.ResultCell
import Derived.Laws.Rows
import Derived.DeepKeys
import Derived.DataBytes
import Derived.Laws.StructEq
import Derived.Laws.AppendOwn
import Derived.Laws.MakeOwn
import Derived.Lib.AppendStr
set_option linter.unusedSimpArgs false
set_option linter.unusedVariables false
namespace Go.Proofs.Qxb6500787aGreat
open Go.RowKit Go.Blk
attribute [local go_sem ↓] execOp_load execOp_store execOp_alloc
attribute [local go_sem] Tryz.ld26 Tryz.st26 Tryz.ld27 Tryz.st27 Tryz.ld28 Tryz.st28 Tryz.ld3 Tryz.st3 Tryz.ld29 Tryz.st29 Tryz.ld4 Tryz.st4 Tryz.ld50 Tryz.st50 Tryz.ld68 Tryz.st68 Tryz.ld9 Tryz.st9 Tryz.ld2 Tryz.st2 Tryz.ld5 Tryz.st5 Tryz.ld12 Tryz.st12 Tryz.ld21 Tryz.st21 Tryz.ld22 Tryz.st22 Tryz.ld24 Tryz.st24 Tryz.ld32 Tryz.st32 Tryz.ld40 Tryz.st40 Tryz.ld44 Tryz.st44 Tryz.ld49 Tryz.st49 Tryz.ld58 Tryz.st58 Tryz.ld97 Tryz.st97 Tryz.ld101 Tryz.st101 Tryz.ld116 Tryz.st116 Tryz.ld121 Tryz.st121 Tryz.ld135 Tryz.st135 Tryz.ld136 Tryz.st136 Tryz.ld138 Tryz.st138 Tryz.ld139 Tryz.st139 Tryz.ld142 Tryz.st142 Tryz.ld143 Tryz.st143 Tryz.ld146 Tryz.st146 Tryz.ld148 Tryz.st148 Tryz.ld154 Tryz.st154 Tryz.ld159 Tryz.st159 Tryz.ld173 Tryz.st173 Tryz.ld183 Tryz.st183 Tryz.ld184 Tryz.st184 Tryz.ld187 Tryz.st187 Tryz.ld192 Tryz.st192 Tryz.ld195 Tryz.st195 Tryz.ld217 Tryz.st217 Tryz.ld222 Tryz.st222 Tryz.ld241 Tryz.st241 Tryz.ld248 Tryz.st248 Tryz.ld268 Tryz.st268 Tryz.ld272 Tryz.st272 Tryz.ld129 Tryz.st129 Tryz.ld31 Tryz.st31 Tryz.ld52 Tryz.st52 Tryz.ld70 Tryz.st70 Tryz.ld74 Tryz.st74 Tryz.ld93 Tryz.st93 Tryz.al129 Tryz.al31 Tryz.al52 Tryz.al70 Tryz.al74 Tryz.al93
attribute [local go_sem] Request.length_enc Request.ok_enc Request.all_get Request.all_set Request.kind_get Request.kind_set Request.blob_get Request.blob_set Request.items_get Request.items_set Request.pred_get Request.pred_set Request.slots_get Request.slots_set Item.length_enc Item.ok_enc Item.all_get Item.all_set Item.del_get Item.del_set Item.pred_get Item.pred_set Item.args_get Item.args_set GOp.length_enc GOp.ok_enc GOp.all_get GOp.all_set GOp.kind_get GOp.kind_set GOp.raw_get GOp.raw_set Reader.length_enc Reader.ok_enc Reader.all_get Reader.all_set Reader.buf_get Reader.buf_set Reader.at__get Reader.at__set Slot.length_enc Slot.ok_enc Slot.all_get Slot.all_set Slot.bound_get Slot.bound_set Slot.name_get Slot.name_set
attribute [local go_sem] size_put size_ext blk_put free_put blk_alloc free_alloc blk_drew free_drew blk_ext free_ext lookOr_some putOr_some segAt_some cellAt_some storeIn_some put_put put_alloc_new length_arr ok_arr_u8 ok_arr_u32 ok_arr_u64 ok_arr_i64 ok_arr_sl cellsV_agg cellsV_int cellsV_bool cellsV_string cellsV_pointer cellsV_slice cellsV_sl ok_int ok_bool ok_string ok_pointer ok_slice ok_sl toList_arr seg_arr set_arr nth_splice nth_splice0 seg_splice seg_splice0 splice_splice splice_splice0 length_splice_if
attribute [local go_sem ↓] execOp_box
attribute [local go_sem] box_run nth_arr_u8 put_arr_u8 blk_drewN free_drewN put_drewN blk_raw free_raw
theorem slice_arr_lo {P : Program} {t e : TypeId} {n : Nat} (hu : P.underlying t = some (.array n e)) (hs : (P.info? e).map (·.size) = some 1) (w : World) (b o l : Nat) (h : l ≤ n) :
    (sliceOp t (.pointer (some ⟨b, o, none⟩)) (some (.int .i64 (l : Int))) none none).run P w = .ok (.value (.slice (cutA (some ⟨b, o, none⟩) l n) (n - l) (n - l))) w := by
  cases hi : P.info? e with
  | none => simp [hi] at hs
  | some i =>
    have h1 : i.size = 1 := by simpa [hi] using hs
    have h2 : (0 : Int) ≤ l ∧ (l : Int) ≤ n := by omega
    simp [sliceOp, Instr.sliceAt, Instr.sureAddr, Instr.sliceBounds, Instr.sliceBound, run_underlying hu, asIntOf, sizeOf, typeInfo, hi, h1, h2, cutA, h]
    split <;> rfl
theorem Tryz.sl129lo (w : World) (b o l : Nat) (h : l ≤ 20) : (sliceOp 232 (.pointer (some ⟨b, o, none⟩)) (some (.int .i64 (l : Int))) none none).run Tryz.prog w = .ok (.value (.slice (cutA (some ⟨b, o, none⟩) l 20) (20 - l) (20 - l))) w := slice_arr_lo (e := 5) (by kernel_rfl) (by kernel_rfl) w b o l h
def addS (x y : Value) : Sem Next := do pure (.value (← binOp .add 9 x y))
theorem execOp_add9 (a : Act) (dst : Option Tmp) (x y : Operand) (ty : TypeId) (pos : String) (after : Array Edge) (guard : Option (Nat × Bool)) :
    execOp a.eval { dst, op := .binOp .add 9 x y 9, type := ty, pos, after, guard } = addS (a.eval x) (a.eval y) := rfl
def room (a b : ByteArray) : Bool := decide (a.size + b.size ≤ 9223372036854775807)
theorem add_run (w : World) (a b : ByteArray) (h : room a b = true) : (addS (.string a) (.string b)).run Tryz.prog w = .ok (.value (.string (a ++ b))) w := by
  unfold addS
  rw [Sem.run_bind]
  have h' := run_string_add_sum (P := Tryz.prog) w a b (of_decide_eq_true h)
  simp only [binOp]
  rw [h']
  rfl
theorem room_of {a b : ByteArray} {m n : Nat} (ha : a.size ≤ m) (hb : b.size ≤ n) (h : m + n ≤ 1000000) : room a b = true := decide_eq_true (by omega)
theorem size_cat {a b : ByteArray} {m n : Nat} (ha : a.size ≤ m) (hb : b.size ≤ n) : (a ++ b).size ≤ m + n := by rw [ByteArray.size_append]; omega
def indexOp (t : TypeId) (x i : Value) : Sem Next := do pure (.value (← Instr.index t x i))
theorem execOp_index (a : Act) (dst : Option Tmp) (x i : Operand) (ty : TypeId) (pos : String) (after : Array Edge) (guard : Option (Nat × Bool)) :
    execOp a.eval { dst, op := .index 9 x i, type := ty, pos, after, guard } = indexOp 9 (a.eval x) (a.eval i) := rfl
theorem index_str (w : World) (nm : List UInt8) (i : Nat) (x : UInt8) (hx : nm[i]? = some x) : (indexOp 9 (.string ⟨nm.toArray⟩) (.int .i64 (i : Int))).run Tryz.prog w = .ok (.value (.int .u8 (w8 x))) w := by
  have hu : Tryz.prog.underlying 9 = some .string := Tryz.underlying9
  have h0 : (0 : Int) ≤ (i : Int) := by omega
  have hl : i < nm.length := (List.getElem?_eq_some_iff.1 hx).1
  have hl' : i < (⟨nm.toArray⟩ : ByteArray).size := by simpa [ByteArray.size] using hl
  have hs : (⟨nm.toArray⟩ : ByteArray)[i]? = some x := by
    have e := (List.getElem?_eq_some_iff.1 hx).2
    rw [getElem?_pos (⟨nm.toArray⟩ : ByteArray) i hl', ← e]
    exact congrArg some (ByteArray.getElem_eq_getElem_data.trans (by simp))
  simp [indexOp, Instr.index, asIntOf, run_underlying hu, h0, hs, w8]
/-- A text of bounded size. -/
def SPost (W : World) (m : Nat) (e : Ending) (W' : World) : Prop := ∃ s : ByteArray, e = .returned (.string s) ∧ s.size ≤ m ∧ 1 ≤ s.size ∧ W.Extends W'
set_option maxRecDepth 100000 in
theorem frame36 (f : Nat → Value) : frameN 36 f = #[f 0, f 1, f 2, f 3, f 4, f 5, f 6, f 7, f 8, f 9, f 10, f 11, f 12, f 13, f 14, f 15, f 16, f 17, f 18, f 19, f 20, f 21, f 22, f 23, f 24, f 25, f 26, f 27, f 28, f 29, f 30, f 31, f 32, f 33, f 34, f 35] := by kernel_rfl
def itI (w : World) (f : Nat → Value) (W : World) : Prop :=
  f 3 = .bool false ∧ f 4 = .pointer (some ⟨w.heap.size, 0, none⟩) ∧ ∃ (n k : Nat) (V : Vector UInt8 20), k ≤ 20 ∧ n < 10 ^ k ∧ n < 1000000000000000000 ∧ (n = 0 → k < 20) ∧ f 0 = .int .i64 (n : Nat) ∧ f 5 = .int .i64 (k : Nat) ∧ blk W w.heap.size = some (arr u8v V) ∧ free W w.heap.size = true ∧ Hid (Ext w W)
attribute [local go_sem ↓] execOp_slice execOp_convert execOp_add9 execOp_index
attribute [local go_sem] Tryz.sl129lo add_run
set_option maxRecDepth 20000 in
set_option maxHeartbeats 2000000 in
theorem itoa_any (w : World) (N : Nat) (hN : N < 1000000000000000000) : Calls Tryz.prog 91 #[.int .i64 (N : Nat)] w (SPost w 20) := by
  by_cases h0 : N = 0
  · subst h0
    go_enter Tryz.func91, Tryz.ntmps91
    go_wp2_with fail
    go_ret
    exact ⟨_, rfl, by decide, by decide, ext_Ext (Ext.refl _)⟩
  have h0' : ¬ (N : Int) = 0 := by omega
  have h1' : ¬ (N : Int) < 0 := by omega
  go_enter Tryz.func91, Tryz.ntmps91
  go_wp2_with fail
  refine wp_loop_f 36 (itI w) (fun f _ => (intOf (f 5)).toNat) rfl ?_ ?_
  · refine ⟨rfl, rfl, N, 20, Vector.replicate 20 0, by omega, by omega, by omega, by omega, rfl, rfl, ?_, ?_, (Ext.refl w).alloc _⟩
    · rw [blk_alloc, if_pos rfl]
    · rw [free_alloc, if_pos rfl]
  intro F W hrel
  obtain ⟨h3, h4, n, k, V, hk, hnk, hnN, hk2, hf0, h5, hb, hfr, HE⟩ := hrel
  have H5 : Hid (F 5 = .int .i64 (k : Nat)) := h5
  rw [frame36, h3, h4, hf0, h5]
  clear h3 hf0 h4 h5
  by_cases hz : n = 0
  · subst hz
    have hk20 := hk2 rfl
    have hcut : cutA (some ⟨w.heap.size, 0, none⟩) k 20 = some ⟨w.heap.size, k, none⟩ := by unfold cutA; rw [if_neg (by omega), Option.map_some, add_addr, Nat.zero_add]
    have hbs : Bs W (some ⟨w.heap.size, k, none⟩) (20 - k) (V.toList.drop k) := by
      refine ⟨by simp, fun _ => ⟨_, k, _, rfl, hb, by rw [length_arr]; omega, ?_⟩, .inr ⟨_, _, rfl⟩⟩
      unfold seg bv
      rw [List.take_of_length_le (by rw [List.length_drop, length_arr]; omega)]
      simp [arr]
    have hcv := conv_str (c := 20 - k) hbs
    clear hnk hbs hk2
    go_wp2_with fail
    go_ret
    exact ⟨_, rfl, by simp [ByteArray.size], by simp [ByteArray.size]; omega, ext_Ext HE.out⟩
  · have hz' : ¬ (n : Int) = 0 := by omega
    obtain ⟨m, rfl⟩ : ∃ m, k = m + 1 := ⟨k - 1, by have : k ≠ 0 := by { rintro rfl; simp at hnk; omega }; omega⟩
    have hm20 : m < 20 := by omega
    obtain ⟨c, hc⟩ : ∃ c : UInt8, c = UInt8.ofNat (48 + n % 10) := ⟨_, rfl⟩
    have HNK : Hid (n < 10 ^ (m + 1)) := hnk
    clear hnk hk2
    have e1 : IntKind.i64.wrap ((m : Int) + 1 - 1) = (m : Int) := by rw [wraps_i64 _ (by omega) (by omega)]; omega
    have r1 : ¬ ((n : Int) % 10 < 0) := by omega
    go_wp2_with fail
    have hw8 : (48 : Int) + (n : Int) % 10 = w8 c := by
      rw [hc]; unfold w8
      rw [UInt8.toNat_ofNat']; omega
    refine ⟨rfl, rfl, ?_, ?_⟩
    · rw [hw8, show splice (arr u8v V) m [Value.int .u8 (w8 c)] = arr u8v (V.set m c hm20) from put_arr_u8 V c hm20]
      refine ⟨rfl, rfl, n / 10, m, V.set m c hm20, by omega, ?_, by omega, fun _ => hm20, ?_, rfl, ?_, ?_, HE.out.put_new _ _ (by omega)⟩
      · have := HNK.out
        rw [Nat.pow_succ] at this
        omega
      · show Value.int .i64 _ = _
        simp
      · rw [blk_put, if_pos rfl, hb, Option.map_some]
      · rw [free_put]; exact hfr
    · show (intOf (Value.int .i64 _)).toNat < (intOf (F 5)).toNat
      rw [H5.out]
      simp [intOf]
end Go.Proofs.Qxb6500787aGreat
