
import Derived.Test.Qxb6500787aGreatRj
import Derived.StillTailTactics
import Derived.Deep.QuietTactic
import Derived.BigQuiet
import Derived.Deep.RegionHeld
import Derived.Deep.CutRange
import Derived.Laws.ResultCell
import Derived.Laws.Rows
import Derived.DeepKeys
import Derived.DataBytes
import Derived.Laws.StructEq
import Derived.Laws.AppendOwn
import Derived.Laws.MakeOwn
set_option linter.unusedSimpArgs false
set_option linter.unusedVariables false
namespace Go.Proofs.Qxb6500787aGreat
open Go.RowKit Go.Blk
attribute [local go_sem ↓] execOp_load execOp_store execOp_alloc
attribute [local go_sem] Tryz.ld26 Tryz.st26 Tryz.ld27 Tryz.st27 Tryz.ld28 Tryz.st28 Tryz.ld3 Tryz.st3 Tryz.ld29 Tryz.st29 Tryz.ld4 Tryz.st4 Tryz.ld50 Tryz.st50 Tryz.ld68 Tryz.st68 Tryz.ld9 Tryz.st9 Tryz.ld2 Tryz.st2 Tryz.ld5 Tryz.st5 Tryz.ld12 Tryz.st12 Tryz.ld21 Tryz.st21 Tryz.ld22 Tryz.st22 Tryz.ld24 Tryz.st24 Tryz.ld32 Tryz.st32 Tryz.ld40 Tryz.st40 Tryz.ld44 Tryz.st44 Tryz.ld49 Tryz.st49 Tryz.ld58 Tryz.st58 Tryz.ld97 Tryz.st97 Tryz.ld101 Tryz.st101 Tryz.ld116 Tryz.st116 Tryz.ld121 Tryz.st121 Tryz.ld135 Tryz.st135 Tryz.ld136 Tryz.st136 Tryz.ld138 Tryz.st138 Tryz.ld139 Tryz.st139 Tryz.ld142 Tryz.st142 Tryz.ld143 Tryz.st143 Tryz.ld146 Tryz.st146 Tryz.ld148 Tryz.st148 Tryz.ld154 Tryz.st154 Tryz.ld159 Tryz.st159 Tryz.ld173 Tryz.st173 Tryz.ld183 Tryz.st183 Tryz.ld184 Tryz.st184 Tryz.ld187 Tryz.st187 Tryz.ld192 Tryz.st192 Tryz.ld195 Tryz.st195 Tryz.ld217 Tryz.st217 Tryz.ld222 Tryz.st222 Tryz.ld241 Tryz.st241 Tryz.ld248 Tryz.st248 Tryz.ld268 Tryz.st268 Tryz.ld272 Tryz.st272 Tryz.ld129 Tryz.st129 Tryz.ld31 Tryz.st31 Tryz.ld52 Tryz.st52 Tryz.ld70 Tryz.st70 Tryz.ld74 Tryz.st74 Tryz.ld93 Tryz.st93 Tryz.al129 Tryz.al31 Tryz.al52 Tryz.al70 Tryz.al74 Tryz.al93
attribute [local go_sem] Request.length_enc Request.ok_enc Request.all_get Request.all_set Request.kind_get Request.kind_set Request.blob_get Request.blob_set Request.items_get Request.items_set Request.pred_get Request.pred_set Request.slots_get Request.slots_set Item.length_enc Item.ok_enc Item.all_get Item.all_set Item.del_get Item.del_set Item.pred_get Item.pred_set Item.args_get Item.args_set GOp.length_enc GOp.ok_enc GOp.all_get GOp.all_set GOp.kind_get GOp.kind_set GOp.raw_get GOp.raw_set Reader.length_enc Reader.ok_enc Reader.all_get Reader.all_set Reader.buf_get Reader.buf_set Reader.at__get Reader.at__set Slot.length_enc Slot.ok_enc Slot.all_get Slot.all_set Slot.bound_get Slot.bound_set Slot.name_get Slot.name_set
attribute [local go_sem] size_put size_ext blk_put free_put blk_alloc free_alloc blk_drew free_drew blk_ext free_ext lookOr_some putOr_some segAt_some cellAt_some storeIn_some put_put put_alloc_new length_arr ok_arr_u8 ok_arr_u32 ok_arr_u64 ok_arr_i64 ok_arr_sl cellsV_agg cellsV_int cellsV_bool cellsV_string cellsV_pointer cellsV_slice cellsV_sl ok_int ok_bool ok_string ok_pointer ok_slice ok_sl toList_arr seg_arr set_arr nth_splice nth_splice0 seg_splice seg_splice0 splice_splice splice_splice0 length_splice_if
attribute [local go_sem ↓] execOp_box
attribute [local go_sem] box_run nth_arr_u8 put_arr_u8 blk_drewN free_drewN put_drewN blk_raw free_raw
/-- A slice of bytes that lie in w0. -/
def RestOk (w0 : World) (rv : Value) (ys : List UInt8) : Prop := ∃ a c, rv = .slice a ys.length c ∧ Bs w0 a ys.length ys ∧ ys.length ≤ c ∧ c ≤ 9223372036854775807 ∧ ys.length ≤ 65536
theorem RestOk.cut {w0 : World} {a : Option Addr} {n c : Nat} {ys : List UInt8} (h : Bs w0 a n ys) (hnc : n ≤ c) (hc : c ≤ 9223372036854775807) (hn : n ≤ 65536) {l : Nat} (hl : l ≤ n) : RestOk w0 (.slice (cutA a l c) (n - l) (c - l)) (ys.drop l) := by
  have hl' : (ys.drop l).length = n - l := by rw [List.length_drop, h.1]
  refine ⟨cutA a l c, c - l, by rw [hl'], ?_, by omega, by omega, by omega⟩
  have := h.cut (l := l) (k := n - l) (cap := c) (by omega) hnc
  rw [List.take_of_length_le (by omega)] at this
  rw [hl']
  exact this
def CutNamePost (w0 W : World) (q : Int × List UInt8 × List UInt8) (e : Ending) (W' : World) : Prop := ∃ rv, e = .returned (.tuple #[.string ⟨q.2.1.toArray⟩, rv, .int .i64 q.1]) ∧ (q.1 = 0 → RestOk w0 rv q.2.2) ∧ ∃ k, W' = W.drewN k
attribute [local go_sem] Tryz.sl27 Tryz.sl27lo
attribute [local go_sem ↓] execOp_slice execOp_convert
set_option maxRecDepth 20000 in
set_option maxHeartbeats 1000000 in
theorem cutName_any (w0 W : World) (a : Option Addr) (n c : Nat) (hn : n ≤ 65536) (hnc : n ≤ c) (hc : c ≤ 9223372036854775807) (ys : List UInt8) (hX : Bs w0 a n ys) (he : w0.Extends W) : Calls Tryz.prog 112 #[.slice a n c] W (CutNamePost w0 W (nameF ys)) := by
  have HX : Hid (Bs w0 a n ys) := hX
  have HXW : Hid (Bs W a n ys) := hX.grow he
  have hxl := hX.1
  clear hX
  go_enter Tryz.func112, Tryz.ntmps112
  by_cases h0 : n = 0
  · have HQ : Hid (nameF ys = (5, [], [])) := by
      obtain rfl : ys = [] := List.eq_nil_of_length_eq_zero (by omega)
      rfl
    subst h0
    clear hxl
    go_wp2_with fail
    go_ret3
    rw [HQ.out]
    exact ⟨_, rfl, fun h => absurd h (by decide), 0, rfl⟩
  obtain ⟨x, r, rfl⟩ : ∃ x r, ys = x :: r := by
    cases ys with
    | nil => exact absurd hxl.symm h0
    | cons x r => exact ⟨x, r, rfl⟩
  obtain ⟨b, o, C, rfl, hC, hCl, v0⟩ := HXW.out.nat (i := 0) (x := x) rfl
  obtain ⟨k, hk⟩ : ∃ k, k = x.toNat := ⟨_, rfl⟩
  have hk8 : k < 256 := by rw [hk]; exact x.toNat_lt
  rw [← hk, Nat.add_zero] at v0
  have HK : Hid (k = x.toNat) := hk
  have hrl : r.length = n - 1 := by simp at hxl; omega
  have HRL : Hid (r.length = n - 1) := hrl
  have q1 : (0 : Int) < (n : Int) := by omega
  have q0 : ¬ ((n : Int) = 0) := by omega
  have w1 : IntKind.i64.wrap (k : Int) = (k : Int) := by rw [IntKind.wrap_i64]; omega
  clear hk hxl hrl
  by_cases h64 : (64 : Int) < (k : Int)
  · have HQ : Hid (nameF (x :: r) = (9, [], [])) := by show _ = _; rw [nameF_cons, if_pos (by rw [← HK.out]; omega)]
    go_wp2_with fail
    go_ret3
    rw [HQ.out]
    exact ⟨_, rfl, fun h => absurd h (by decide), 0, rfl⟩
  by_cases hlk : n < 1 + k
  · have HQ : Hid (nameF (x :: r) = (5, [], [])) := by show _ = _; rw [nameF_cons, if_neg (by rw [← HK.out]; omega), if_pos (by rw [← HK.out, HRL.out]; omega)]
    have q3 : (n : Int) < 1 + (k : Int) := by omega
    go_wp2_with fail
    go_ret3
    rw [HQ.out]
    exact ⟨_, rfl, fun h => absurd h (by decide), 0, rfl⟩
  · have HQ : Hid (nameF (x :: r) = (0, r.take k, r.drop k)) := by show _ = _; rw [nameF_cons, if_neg (by rw [← HK.out]; omega), if_neg (by rw [← HK.out, HRL.out]; omega), ← HK.out]
    have q3 : ¬ (n : Int) < 1 + (k : Int) := by omega
    have hw : IntKind.i64.wrap (1 + (k : Int)) = 1 + (k : Int) := by rw [IntKind.wrap_i64]; omega
    have hsl1 : ∀ V, (sliceOp 31 (.slice (some ⟨b, o, none⟩) n c) (some (.int .i64 1)) (some (.int .i64 (1 + (k : Int)))) none).run Tryz.prog V = .ok (.value (.slice (cutA (some ⟨b, o, none⟩) 1 c) k (c - 1))) V := fun V => by
      have := Tryz.sl27 V (some ⟨b, o, none⟩) n c 1 (1 + k) (by omega) (by omega)
      rw [show 1 + k - 1 = k by omega] at this
      rw [← this]
      rfl
    have hsl2 : ∀ V, (sliceOp 31 (.slice (some ⟨b, o, none⟩) n c) (some (.int .i64 (1 + (k : Int)))) none none).run Tryz.prog V = .ok (.value (.slice (cutA (some ⟨b, o, none⟩) (1 + k) c) (n - (1 + k)) (c - (1 + k)))) V := fun V => Tryz.sl27lo V (some ⟨b, o, none⟩) n c (1 + k) (by omega)
    have hcv : ∀ j, (convOp 31 9 (.slice (cutA (some ⟨b, o, none⟩) 1 c) k (c - 1))).run Tryz.prog (W.drewN j) = .ok (.value (.string ⟨(r.take k).toArray⟩)) (W.drewN j) := fun j => by
      have := conv_str (W := W.drewN j) (c := c - 1) ((HXW.out : Bs (W.drewN j) _ _ _).cut (l := 1) (k := k) (cap := c) (by omega) hnc)
      exact this
    have hR : RestOk w0 (.slice (cutA (some ⟨b, o, none⟩) (1 + k) c) (n - (1 + k)) (c - (1 + k))) (r.drop k) := by
      have := RestOk.cut HX.out hnc hc hn (l := 1 + k) (by omega)
      rw [Nat.add_comm 1 k, List.drop_succ_cons] at this
      rw [Nat.add_comm 1 k]
      exact this
    have HRr : Hid (RestOk w0 (.slice (cutA (some ⟨b, o, none⟩) (1 + k) c) (n - (1 + k)) (c - (1 + k))) (r.drop k)) := hR
    obtain ⟨A1, hA1⟩ : ∃ A1, A1 = cutA (some ⟨b, o, none⟩) 1 c := ⟨_, rfl⟩
    obtain ⟨A2, hA2⟩ : ∃ A2, A2 = cutA (some ⟨b, o, none⟩) (1 + k) c := ⟨_, rfl⟩
    obtain ⟨nm, hnm⟩ : ∃ nm, nm = r.take k := ⟨_, rfl⟩
    rw [← hA2] at HRr
    simp only [← hA1] at hsl1 hcv
    simp only [← hA2] at hsl2
    simp only [← hnm] at hcv
    have HNM : Hid (nm = r.take k) := hnm
    clear hR hA1 hA2 hnm
    repeat go_step
    go_quiet (fail)
    go_wp2_with fail
    go_ret3
    rw [HQ.out, ← HNM.out]
    exact ⟨_, rfl, fun _ => HRr.out, _, rfl⟩
end Go.Proofs.Qxb6500787aGreat
