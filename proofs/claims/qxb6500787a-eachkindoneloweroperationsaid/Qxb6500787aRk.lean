import Derived.Test.Qxb6500787aRj
import Derived.StillTailTactics
import Derived.Deep.QuietTactic
import Derived.BigQuiet
import Derived.Deep.RegionHeld
import Derived.Deep.CutRange
import Derived.Laws.ResultCell
import Derived.Laws.Rows
import Derived.DeepKeys
import Derived.DataBytes
import Derived.Laws.StructEq
import Derived.Laws.AppendOwn
import Derived.Laws.MakeOwn
set_option linter.unusedSimpArgs false
set_option linter.unusedVariables false
namespace Go.Proofs.Qxb6500787a
open Go.RowKit Go.Blk
attribute [local go_sem ↓] execOp_load execOp_store execOp_alloc
attribute [local go_sem] Try.ld26 Try.st26 Try.ld27 Try.st27 Try.ld28 Try.st28 Try.ld3 Try.st3 Try.ld29 Try.st29 Try.ld4 Try.st4 Try.ld50 Try.st50 Try.ld68 Try.st68 Try.ld9 Try.st9 Try.ld2 Try.st2 Try.ld5 Try.st5 Try.ld12 Try.st12 Try.ld21 Try.st21 Try.ld22 Try.st22 Try.ld24 Try.st24 Try.ld32 Try.st32 Try.ld40 Try.st40 Try.ld44 Try.st44 Try.ld49 Try.st49 Try.ld58 Try.st58 Try.ld63 Try.st63 Try.ld97 Try.st97 Try.ld101 Try.st101 Try.ld116 Try.st116 Try.ld121 Try.st121 Try.ld135 Try.st135 Try.ld136 Try.st136 Try.ld138 Try.st138 Try.ld139 Try.st139 Try.ld142 Try.st142 Try.ld143 Try.st143 Try.ld146 Try.st146 Try.ld148 Try.st148 Try.ld154 Try.st154 Try.ld159 Try.st159 Try.ld173 Try.st173 Try.ld183 Try.st183 Try.ld184 Try.st184 Try.ld187 Try.st187 Try.ld192 Try.st192 Try.ld195 Try.st195 Try.ld217 Try.st217 Try.ld222 Try.st222 Try.ld241 Try.st241 Try.ld248 Try.st248 Try.ld268 Try.st268 Try.ld272 Try.st272 Try.ld129 Try.st129 Try.ld31 Try.st31 Try.ld52 Try.st52 Try.ld70 Try.st70 Try.ld74 Try.st74 Try.ld93 Try.st93 Try.al129 Try.al31 Try.al52 Try.al70 Try.al74 Try.al93
attribute [local go_sem] Request.length_enc Request.ok_enc Request.all_get Request.all_set Request.kind_get Request.kind_set Request.blob_get Request.blob_set Request.items_get Request.items_set Request.pred_get Request.pred_set Request.slots_get Request.slots_set Item.length_enc Item.ok_enc Item.all_get Item.all_set Item.del_get Item.del_set Item.pred_get Item.pred_set Item.args_get Item.args_set GOp.length_enc GOp.ok_enc GOp.all_get GOp.all_set GOp.kind_get GOp.kind_set GOp.raw_get GOp.raw_set Reader.length_enc Reader.ok_enc Reader.all_get Reader.all_set Reader.buf_get Reader.buf_set Reader.at__get Reader.at__set Slot.length_enc Slot.ok_enc Slot.all_get Slot.all_set Slot.bound_get Slot.bound_set Slot.name_get Slot.name_set
attribute [local go_sem] size_put size_ext blk_put free_put blk_alloc free_alloc blk_drew free_drew blk_ext free_ext lookOr_some putOr_some segAt_some cellAt_some storeIn_some put_put put_alloc_new length_arr ok_arr_u8 ok_arr_u32 ok_arr_u64 ok_arr_i64 ok_arr_sl cellsV_agg cellsV_int cellsV_bool cellsV_string cellsV_pointer cellsV_slice cellsV_sl ok_int ok_bool ok_string ok_pointer ok_slice ok_sl toList_arr seg_arr set_arr nth_splice nth_splice0 seg_splice seg_splice0 splice_splice splice_splice0 length_splice_if
attribute [local go_sem ↓] execOp_box
attribute [local go_sem] box_run nth_arr_u8 put_arr_u8 blk_drewN free_drewN put_drewN blk_raw free_raw
/-- A slice of bytes that lie in w0. -/
def RestOk (w0 : World) (rv : Value) (ys : List UInt8) : Prop := ∃ a c, rv = .slice a ys.length c ∧ Bs w0 a ys.length ys ∧ ys.length ≤ c ∧ c ≤ 9223372036854775807 ∧ ys.length ≤ 65536
theorem RestOk.cut {w0 : World} {a : Option Addr} {n c : Nat} {ys : List UInt8} (h : Bs w0 a n ys) (hnc : n ≤ c) (hc : c ≤ 9223372036854775807) (hn : n ≤ 65536) {l : Nat} (hl : l ≤ n) : RestOk w0 (.slice (cutA a l c) (n - l) (c - l)) (ys.drop l) := by
  have hl' : (ys.drop l).length = n - l := by rw [List.length_drop, h.1]
  refine ⟨cutA a l c, c - l, by rw [hl'], ?_, by omega, by omega, by omega⟩
  have := h.cut (l := l) (k := n - l) (cap := c) (by omega) hnc
  rw [List.take_of_length_le (by omega)] at this
  rw [hl']
  exact this
def CutNamePost (w0 W : World) (q : Int × List UInt8 × List UInt8) (e : Ending) (W' : World) : Prop := ∃ rv, e = .returned (.tuple #[.string ⟨q.2.1.toArray⟩, rv, .int .i64 q.1]) ∧ (q.1 = 0 → RestOk w0 rv q.2.2) ∧ ∃ k, W' = W.drewN k
attribute [local go_sem] Try.sl27 Try.sl27lo
attribute [local go_sem ↓] execOp_slice execOp_convert
set_option maxRecDepth 20000 in
set_option maxHeartbeats 1000000 in
theorem cutName_any (w0 W : World) (a : Option Addr) (n c : Nat) (hn : n ≤ 65536) (hnc : n ≤ c) (hc : c ≤ 9223372036854775807) (ys : List UInt8) (hX : Bs w0 a n ys) (he : w0.Extends W) : Calls Try.prog 64 #[.slice a n c] W (CutNamePost w0 W (nameF ys)) := by
  have HX : Hid (Bs w0 a n ys) := hX
  have HXW : Hid (Bs W a n ys) := hX.grow he
  have hxl := hX.1
  clear hX
  go_enter Try.func64, Try.ntmps64
  by_cases h0 : n = 0
  · have HQ : Hid (nameF ys = (5, [], [])) := by
      obtain rfl : ys = [] := List.eq_nil_of_length_eq_zero (by omega)
      rfl
    subst h0
    clear hxl
    go_wp2_with fail
    go_ret3
    rw [HQ.out]
    exact ⟨_, rfl, fun h => absurd h (by decide), 0, rfl⟩
  obtain ⟨x, r, rfl⟩ : ∃ x r, ys = x :: r := by
    cases ys with
    | nil => exact absurd hxl.symm h0
    | cons x r => exact ⟨x, r, rfl⟩
  obtain ⟨b, o, C, rfl, hC, hCl, v0⟩ := HXW.out.nat (i := 0) (x := x) rfl
  obtain ⟨k, hk⟩ : ∃ k, k = x.toNat := ⟨_, rfl⟩
  have hk8 : k < 256 := by rw [hk]; exact x.toNat_lt
  rw [← hk, Nat.add_zero] at v0
  have HK : Hid (k = x.toNat) := hk
  have hrl : r.length = n - 1 := by simp at hxl; omega
  have HRL : Hid (r.length = n - 1) := hrl
  have q1 : (0 : Int) < (n : Int) := by omega
  have q0 : ¬ ((n : Int) = 0) := by omega
  have w1 : IntKind.i64.wrap (k : Int) = (k : Int) := by rw [IntKind.wrap_i64]; omega
  clear hk hxl hrl
  by_cases h64 : (64 : Int) < (k : Int)
  · have HQ : Hid (nameF (x :: r) = (9, [], [])) := by show _ = _; rw [nameF_cons, if_pos (by rw [← HK.out]; omega)]
    go_wp2_with fail
    go_ret3
    rw [HQ.out]
    exact ⟨_, rfl, fun h => absurd h (by decide), 0, rfl⟩
  by_cases hlk : n < 1 + k
  · have HQ : Hid (nameF (x :: r) = (5, [], [])) := by show _ = _; rw [nameF_cons, if_neg (by rw [← HK.out]; omega), if_pos (by rw [← HK.out, HRL.out]; omega)]
    have q3 : (n : Int) < 1 + (k : Int) := by omega
    go_wp2_with fail
    go_ret3
    rw [HQ.out]
    exact ⟨_, rfl, fun h => absurd h (by decide), 0, rfl⟩
  · have HQ : Hid (nameF (x :: r) = (0, r.take k, r.drop k)) := by show _ = _; rw [nameF_cons, if_neg (by rw [← HK.out]; omega), if_neg (by rw [← HK.out, HRL.out]; omega), ← HK.out]
    have q3 : ¬ (n : Int) < 1 + (k : Int) := by omega
    have hw : IntKind.i64.wrap (1 + (k : Int)) = 1 + (k : Int) := by rw [IntKind.wrap_i64]; omega
    have hsl1 : ∀ V, (sliceOp 27 (.slice (some ⟨b, o, none⟩) n c) (some (.int .i64 1)) (some (.int .i64 (1 + (k : Int)))) none).run Try.prog V = .ok (.value (.slice (cutA (some ⟨b, o, none⟩) 1 c) k (c - 1))) V := fun V => by
      have := Try.sl27 V (some ⟨b, o, none⟩) n c 1 (1 + k) (by omega) (by omega)
      rw [show 1 + k - 1 = k by omega] at this
      rw [← this]
      rfl
    have hsl2 : ∀ V, (sliceOp 27 (.slice (some ⟨b, o, none⟩) n c) (some (.int .i64 (1 + (k : Int)))) none none).run Try.prog V = .ok (.value (.slice (cutA (some ⟨b, o, none⟩) (1 + k) c) (n - (1 + k)) (c - (1 + k)))) V := fun V => Try.sl27lo V (some ⟨b, o, none⟩) n c (1 + k) (by omega)
    have hcv : ∀ j, (convOp 27 9 (.slice (cutA (some ⟨b, o, none⟩) 1 c) k (c - 1))).run Try.prog (W.drewN j) = .ok (.value (.string ⟨(r.take k).toArray⟩)) (W.drewN j) := fun j => by
      have := conv_str (W := W.drewN j) (c := c - 1) ((HXW.out : Bs (W.drewN j) _ _ _).cut (l := 1) (k := k) (cap := c) (by omega) hnc)
      exact this
    have hR : RestOk w0 (.slice (cutA (some ⟨b, o, none⟩) (1 + k) c) (n - (1 + k)) (c - (1 + k))) (r.drop k) := by
      have := RestOk.cut HX.out hnc hc hn (l := 1 + k) (by omega)
      rw [Nat.add_comm 1 k, List.drop_succ_cons] at this
      rw [Nat.add_comm 1 k]
      exact this
    have HRr : Hid (RestOk w0 (.slice (cutA (some ⟨b, o, none⟩) (1 + k) c) (n - (1 + k)) (c - (1 + k))) (r.drop k)) := hR
    obtain ⟨A1, hA1⟩ : ∃ A1, A1 = cutA (some ⟨b, o, none⟩) 1 c := ⟨_, rfl⟩
    obtain ⟨A2, hA2⟩ : ∃ A2, A2 = cutA (some ⟨b, o, none⟩) (1 + k) c := ⟨_, rfl⟩
    obtain ⟨nm, hnm⟩ : ∃ nm, nm = r.take k := ⟨_, rfl⟩
    rw [← hA2] at HRr
    simp only [← hA1] at hsl1 hcv
    simp only [← hA2] at hsl2
    simp only [← hnm] at hcv
    have HNM : Hid (nm = r.take k) := hnm
    clear hR hA1 hA2 hnm
    repeat go_step
    go_quiet (fail)
    go_wp2_with fail
    go_ret3
    rw [HQ.out, ← HNM.out]
    exact ⟨_, rfl, fun _ => HRr.out, _, rfl⟩
end Go.Proofs.Qxb6500787a
