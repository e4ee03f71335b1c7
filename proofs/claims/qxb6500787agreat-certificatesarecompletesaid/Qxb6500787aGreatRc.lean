
import Derived.Test.Qxb6500787aGreatRb
import Derived.StillTailTactics
import Derived.Deep.QuietTactic
import Derived.BigQuiet
import Derived.Deep.RegionHeld
import Derived.Deep.CutRange
import Derived.Laws.ResultCell
import Derived.Laws.Rows
import Derived.DeepKeys
import Derived.DataBytes
import Derived.Laws.StructEq
import Derived.Laws.AppendOwn
import Derived.Laws.MakeOwn
set_option linter.unusedSimpArgs false
set_option linter.unusedVariables false
namespace Go.Proofs.Qxb6500787aGreat
open Go.RowKit Go.Blk
attribute [local go_sem ↓] execOp_load execOp_store execOp_alloc
attribute [local go_sem] Tryz.ld26 Tryz.st26 Tryz.ld27 Tryz.st27 Tryz.ld28 Tryz.st28 Tryz.ld3 Tryz.st3 Tryz.ld29 Tryz.st29 Tryz.ld4 Tryz.st4 Tryz.ld50 Tryz.st50 Tryz.ld68 Tryz.st68 Tryz.ld9 Tryz.st9 Tryz.ld2 Tryz.st2 Tryz.ld5 Tryz.st5 Tryz.ld12 Tryz.st12 Tryz.ld21 Tryz.st21 Tryz.ld22 Tryz.st22 Tryz.ld24 Tryz.st24 Tryz.ld32 Tryz.st32 Tryz.ld40 Tryz.st40 Tryz.ld44 Tryz.st44 Tryz.ld49 Tryz.st49 Tryz.ld58 Tryz.st58 Tryz.ld97 Tryz.st97 Tryz.ld101 Tryz.st101 Tryz.ld116 Tryz.st116 Tryz.ld121 Tryz.st121 Tryz.ld135 Tryz.st135 Tryz.ld136 Tryz.st136 Tryz.ld138 Tryz.st138 Tryz.ld139 Tryz.st139 Tryz.ld142 Tryz.st142 Tryz.ld143 Tryz.st143 Tryz.ld146 Tryz.st146 Tryz.ld148 Tryz.st148 Tryz.ld154 Tryz.st154 Tryz.ld159 Tryz.st159 Tryz.ld173 Tryz.st173 Tryz.ld183 Tryz.st183 Tryz.ld184 Tryz.st184 Tryz.ld187 Tryz.st187 Tryz.ld192 Tryz.st192 Tryz.ld195 Tryz.st195 Tryz.ld217 Tryz.st217 Tryz.ld222 Tryz.st222 Tryz.ld241 Tryz.st241 Tryz.ld248 Tryz.st248 Tryz.ld268 Tryz.st268 Tryz.ld272 Tryz.st272 Tryz.ld129 Tryz.st129 Tryz.ld31 Tryz.st31 Tryz.ld52 Tryz.st52 Tryz.ld70 Tryz.st70 Tryz.ld74 Tryz.st74 Tryz.ld93 Tryz.st93 Tryz.al129 Tryz.al31 Tryz.al52 Tryz.al70 Tryz.al74 Tryz.al93
attribute [local go_sem] Request.length_enc Request.ok_enc Request.all_get Request.all_set Request.kind_get Request.kind_set Request.blob_get Request.blob_set Request.items_get Request.items_set Request.pred_get Request.pred_set Request.slots_get Request.slots_set Item.length_enc Item.ok_enc Item.all_get Item.all_set Item.del_get Item.del_set Item.pred_get Item.pred_set Item.args_get Item.args_set GOp.length_enc GOp.ok_enc GOp.all_get GOp.all_set GOp.kind_get GOp.kind_set GOp.raw_get GOp.raw_set Reader.length_enc Reader.ok_enc Reader.all_get Reader.all_set Reader.buf_get Reader.buf_set Reader.at__get Reader.at__set Slot.length_enc Slot.ok_enc Slot.all_get Slot.all_set Slot.bound_get Slot.bound_set Slot.name_get Slot.name_set
attribute [local go_sem] size_put size_ext blk_put free_put blk_alloc free_alloc blk_drew free_drew blk_ext free_ext lookOr_some putOr_some segAt_some cellAt_some storeIn_some put_put put_alloc_new length_arr ok_arr_u8 ok_arr_u32 ok_arr_u64 ok_arr_i64 ok_arr_sl cellsV_agg cellsV_int cellsV_bool cellsV_string cellsV_pointer cellsV_slice cellsV_sl ok_int ok_bool ok_string ok_pointer ok_slice ok_sl toList_arr seg_arr set_arr nth_splice nth_splice0 seg_splice seg_splice0 splice_splice splice_splice0 length_splice_if
attribute [local go_sem ↓] execOp_box
attribute [local go_sem] box_run nth_arr_u8 put_arr_u8 blk_drewN free_drewN put_drewN blk_raw free_raw
def tagF : List UInt8 → Int × Bool × List UInt8
  | [] => (5, false, [])
  | v :: ys => if 1 < v.toNat then (7, false, []) else (0, decide (v.toNat = 1), ys)
theorem nameF_cons (x : UInt8) (ys : List UInt8) : nameF (x :: ys) = if 64 < x.toNat then (9, [], []) else if ys.length < x.toNat then (5, [], []) else (0, ys.take x.toNat, ys.drop x.toNat) := rfl
theorem tagF_cons (x : UInt8) (ys : List UInt8) : tagF (x :: ys) = if 1 < x.toNat then (7, false, []) else (0, decide (x.toNat = 1), ys) := rfl
def RPost (w0 : World) (br : Nat) (a : Option Addr) (n c : Nat) (xs : List UInt8) (W : World) (cd : Int) (rest : List UInt8) (W' : World) : Prop := ∃ p', Rdr w0 br a n c p' W' ∧ Side (isR br) W W' ∧ (cd = 0 → xs.drop p' = rest)
def NamePost (w0 : World) (br : Nat) (a : Option Addr) (n c : Nat) (xs : List UInt8) (W : World) (q : Int × List UInt8 × List UInt8) (e : Ending) (W' : World) : Prop := e = .returned (.tuple #[.string ⟨q.2.1.toArray⟩, .int .i64 q.1]) ∧ RPost w0 br a n c xs W q.1 q.2.2 W'
def TagPost (w0 : World) (br : Nat) (a : Option Addr) (n c : Nat) (xs : List UInt8) (W : World) (q : Int × Bool × List UInt8) (e : Ending) (W' : World) : Prop := e = .returned (.tuple #[.bool q.2.1, .int .i64 q.1]) ∧ RPost w0 br a n c xs W q.1 q.2.2 W'
attribute [local go_sem] rd_len rd0 rd1 rd_set1
attribute [local go_sem ↓] execOp_slice execOp_convert
set_option maxRecDepth 20000 in
set_option maxHeartbeats 1000000 in
theorem name_any (w0 W : World) (br : Nat) (a : Option Addr) (n c p : Nat) (hR : Rdr w0 br a n c p W) (hn : n ≤ 65536) (hnc : n ≤ c) (hc : c ≤ 9223372036854775807) (xs : List UInt8) (hX : Bs w0 a n xs) : Calls Tryz.prog 127 #[.pointer (some ⟨br, 0, none⟩)] W (NamePost w0 br a n c xs W (nameF (xs.drop p))) := by
  have HR : Hid (Rdr w0 br a n c p W) := hR
  have HX : Hid (Bs w0 a n xs) := hX
  have hpn : p ≤ n := hR.2.2.2.2
  have hxl := hX.1
  clear hR hX
  go_enter Tryz.func127, Tryz.ntmps127
  by_cases hp : p = n
  · have hq : nameF (xs.drop p) = (5, [], []) := by rw [List.drop_of_length_le (by omega)]; rfl
    rw [hq]
    have HQ : Hid (nameF (xs.drop p) = (5, [], [])) := hq
    clear hq
    go_wp2_with fail
    refine (u8_none w0 W br a n c p HR.out hn hnc hc xs HX.out hp).mono ?_
    rintro e W1 ⟨rfl, h1, h2⟩
    have HF : Hid (RPost w0 br a n c xs W 5 [] W1) := ⟨p, h1, h2, fun h => absurd h (by decide)⟩
    clear h1 h2
    dsimp only
    go_wp2_with fail
    go_ret2
    exact ⟨rfl, HF.out⟩
  obtain ⟨x, hx⟩ : ∃ x, xs[p]? = some x := ⟨_, List.getElem?_eq_getElem (by omega)⟩
  obtain ⟨k, hk⟩ : ∃ k, k = x.toNat := ⟨_, rfl⟩
  have hk8 : w8 x = (k : Int) := by unfold w8; rw [hk]
  have hd := drop_at hx
  have HU := u8_some w0 W br a n c p HR.out hn hnc hc xs HX.out x hx
  rw [hk8] at HU
  have HU' : Hid (Calls Tryz.prog 82 #[.pointer (some ⟨br, 0, none⟩)] W fun e W' => e = .returned (.tuple #[.int .i64 (k : Int), .bool true]) ∧ Rdr w0 br a n c (p + 1) W' ∧ Side (isR br) W W') := HU
  have HD : Hid (xs.drop p = x :: xs.drop (p + 1)) := hd
  have HK : Hid (k = x.toNat) := hk
  have hdl : (xs.drop (p + 1)).length = n - (p + 1) := by rw [List.length_drop]; omega
  clear HU hd hx hk hk8
  have hp1 : p + 1 ≤ n := by omega
  by_cases h64 : (64 : Int) < (k : Int)
  · have hq : nameF (xs.drop p) = (9, [], []) := by rw [HD.out]; rw [nameF_cons, if_pos (by rw [← HK.out]; omega)]
    rw [hq]
    clear hq
    go_wp2_with fail
    refine HU'.out.mono ?_
    rintro e W1 ⟨rfl, h1, h2⟩
    have HF : Hid (RPost w0 br a n c xs W 9 [] W1) := ⟨p + 1, h1, h2, fun h => absurd h (by decide)⟩
    clear h1 h2
    dsimp only
    go_wp2_with fail
    go_ret2
    exact ⟨rfl, HF.out⟩
  by_cases hlk : n < p + 1 + k
  · have hq : nameF (xs.drop p) = (5, [], []) := by rw [HD.out]; rw [nameF_cons, if_neg (by rw [← HK.out]; omega), if_pos (by rw [← HK.out]; omega)]
    rw [hq]
    clear hq
    go_wp2_with fail
    refine HU'.out.mono ?_
    rintro e W1 ⟨rfl, h1, h2⟩
    have H1 : Hid (Rdr w0 br a n c (p + 1) W1 ∧ Side (isR br) W W1) := ⟨h1, h2⟩
    clear h1 h2
    dsimp only
    go_wp2_with fail
    refine (take_no w0 W1 br a n c (p + 1) H1.out.1 hn hnc hc xs HX.out k hlk).mono ?_
    rintro e W2 ⟨rfl, h1, h2⟩
    have HF : Hid (RPost w0 br a n c xs W 5 [] W2) := ⟨p + 1, h1, H1.out.2.trans h2, fun h => absurd h (by decide)⟩
    clear h1 h2
    dsimp only
    go_wp2_with fail
    go_ret2
    exact ⟨rfl, HF.out⟩
  · obtain ⟨nm, hnm⟩ : ∃ nm, nm = (xs.drop (p + 1)).take k := ⟨_, rfl⟩
    have hq : nameF (xs.drop p) = (0, nm, (xs.drop (p + 1)).drop k) := by rw [HD.out]; rw [nameF_cons, if_neg (by rw [← HK.out]; omega), if_neg (by rw [← HK.out]; omega), ← HK.out, hnm]
    rw [hq]
    have HNM : Hid (nm = (xs.drop (p + 1)).take k) := hnm
    clear hq hnm
    go_wp2_with fail
    refine HU'.out.mono ?_
    rintro e W1 ⟨rfl, h1, h2⟩
    have H1 : Hid (Rdr w0 br a n c (p + 1) W1 ∧ Side (isR br) W W1) := ⟨h1, h2⟩
    clear h1 h2
    dsimp only
    go_wp2_with fail
    refine (take_ok w0 W1 br a n c (p + 1) H1.out.1 hn hnc hc xs HX.out k (by omega)).mono ?_
    rintro e W2 ⟨rfl, h1, h2⟩
    have HF : Hid (RPost w0 br a n c xs W 0 ((xs.drop (p + 1)).drop k) W2) := ⟨p + 1 + k, h1, H1.out.2.trans h2, fun _ => by rw [List.drop_drop]⟩
    have hcv : (convOp 31 9 (.slice (cutA a (p + 1) c) k (c - (p + 1)))).run Tryz.prog W2 = .ok (.value (.string ⟨nm.toArray⟩)) W2 := by
      have := conv_str (c := c - (p + 1)) ((HX.out.grow h1.2.2.1).cut (l := p + 1) (k := k) (cap := c) (by omega) hnc)
      rw [← HNM.out] at this
      exact this
    clear h1 h2
    dsimp only
    go_wp2_with fail
    go_ret2
    exact ⟨rfl, HF.out⟩
set_option maxRecDepth 20000 in
set_option maxHeartbeats 1000000 in
theorem tag_any (w0 W : World) (br : Nat) (a : Option Addr) (n c p : Nat) (hR : Rdr w0 br a n c p W) (hn : n ≤ 65536) (hnc : n ≤ c) (hc : c ≤ 9223372036854775807) (xs : List UInt8) (hX : Bs w0 a n xs) : Calls Tryz.prog 122 #[.pointer (some ⟨br, 0, none⟩)] W (TagPost w0 br a n c xs W (tagF (xs.drop p))) := by
  have HR : Hid (Rdr w0 br a n c p W) := hR
  have HX : Hid (Bs w0 a n xs) := hX
  have hpn : p ≤ n := hR.2.2.2.2
  have hxl := hX.1
  clear hR hX
  go_enter Tryz.func122, Tryz.ntmps122
  by_cases hp : p = n
  · have hq : tagF (xs.drop p) = (5, false, []) := by rw [List.drop_of_length_le (by omega)]; rfl
    rw [hq]
    clear hq
    go_wp2_with fail
    refine (u8_none w0 W br a n c p HR.out hn hnc hc xs HX.out hp).mono ?_
    rintro e W1 ⟨rfl, h1, h2⟩
    have HF : Hid (RPost w0 br a n c xs W 5 [] W1) := ⟨p, h1, h2, fun h => absurd h (by decide)⟩
    clear h1 h2
    dsimp only
    go_wp2_with fail
    go_ret2
    exact ⟨rfl, HF.out⟩
  obtain ⟨x, hx⟩ : ∃ x, xs[p]? = some x := ⟨_, List.getElem?_eq_getElem (by omega)⟩
  obtain ⟨k, hk⟩ : ∃ k, k = x.toNat := ⟨_, rfl⟩
  have hk8 : w8 x = (k : Int) := by unfold w8; rw [hk]
  have hd := drop_at hx
  have HU := u8_some w0 W br a n c p HR.out hn hnc hc xs HX.out x hx
  rw [hk8] at HU
  have HU' : Hid (Calls Tryz.prog 82 #[.pointer (some ⟨br, 0, none⟩)] W fun e W' => e = .returned (.tuple #[.int .i64 (k : Int), .bool true]) ∧ Rdr w0 br a n c (p + 1) W' ∧ Side (isR br) W W') := HU
  have HD : Hid (xs.drop p = x :: xs.drop (p + 1)) := hd
  have HK : Hid (k = x.toNat) := hk
  clear HU hd hx hk hk8
  by_cases h1 : (1 : Int) < (k : Int)
  · have hq : tagF (xs.drop p) = (7, false, []) := by rw [HD.out]; rw [tagF_cons, if_pos (by rw [← HK.out]; omega)]
    rw [hq]
    clear hq
    go_wp2_with fail
    refine HU'.out.mono ?_
    rintro e W1 ⟨rfl, h1, h2⟩
    have HF : Hid (RPost w0 br a n c xs W 7 [] W1) := ⟨p + 1, h1, h2, fun h => absurd h (by decide)⟩
    clear h1 h2
    dsimp only
    go_wp2_with fail
    go_ret2
    exact ⟨rfl, HF.out⟩
  · obtain ⟨bt, hbt⟩ : ∃ bt, bt = decide (k = 1) := ⟨_, rfl⟩
    have hq : tagF (xs.drop p) = (0, bt, xs.drop (p + 1)) := by rw [HD.out]; rw [tagF_cons, if_neg (by rw [← HK.out]; omega), ← HK.out, hbt]
    rw [hq]
    have HBT : Hid (bt = decide (k = 1)) := hbt
    clear hq hbt
    go_wp2_with fail
    refine HU'.out.mono ?_
    rintro e W1 ⟨rfl, h1, h2⟩
    have HF : Hid (RPost w0 br a n c xs W 0 (xs.drop (p + 1)) W1) := ⟨p + 1, h1, h2, fun _ => rfl⟩
    clear h1 h2
    dsimp only
    go_wp2_with fail
    go_ret2
    refine ⟨?_, HF.out⟩
    rw [HBT.out]
    have h01 : k = 0 ∨ k = 1 := by omega
    rcases h01 with rfl | rfl <;> rfl
end Go.Proofs.Qxb6500787aGreat
