
import Derived.Test.Qxb6500787aGreatRg
import Derived.StillTailTactics
import Derived.Deep.QuietTactic
import Derived.BigQuiet
import Derived.Deep.RegionHeld
import Derived.Deep.CutRange
import Derived.Laws.ResultCell
import Derived.Laws.Rows
import Derived.DeepKeys
import Derived.DataBytes
import Derived.Laws.StructEq
import Derived.Laws.AppendOwn
import Derived.Laws.MakeOwn
set_option linter.unusedSimpArgs false
set_option linter.unusedVariables false
namespace Go.Proofs.Qxb6500787aGreat
open Go.RowKit Go.Blk
attribute [local go_sem ↓] execOp_load execOp_store execOp_alloc
attribute [local go_sem] Tryz.ld26 Tryz.st26 Tryz.ld27 Tryz.st27 Tryz.ld28 Tryz.st28 Tryz.ld3 Tryz.st3 Tryz.ld29 Tryz.st29 Tryz.ld4 Tryz.st4 Tryz.ld50 Tryz.st50 Tryz.ld68 Tryz.st68 Tryz.ld9 Tryz.st9 Tryz.ld2 Tryz.st2 Tryz.ld5 Tryz.st5 Tryz.ld12 Tryz.st12 Tryz.ld21 Tryz.st21 Tryz.ld22 Tryz.st22 Tryz.ld24 Tryz.st24 Tryz.ld32 Tryz.st32 Tryz.ld40 Tryz.st40 Tryz.ld44 Tryz.st44 Tryz.ld49 Tryz.st49 Tryz.ld58 Tryz.st58 Tryz.ld97 Tryz.st97 Tryz.ld101 Tryz.st101 Tryz.ld116 Tryz.st116 Tryz.ld121 Tryz.st121 Tryz.ld135 Tryz.st135 Tryz.ld136 Tryz.st136 Tryz.ld138 Tryz.st138 Tryz.ld139 Tryz.st139 Tryz.ld142 Tryz.st142 Tryz.ld143 Tryz.st143 Tryz.ld146 Tryz.st146 Tryz.ld148 Tryz.st148 Tryz.ld154 Tryz.st154 Tryz.ld159 Tryz.st159 Tryz.ld173 Tryz.st173 Tryz.ld183 Tryz.st183 Tryz.ld184 Tryz.st184 Tryz.ld187 Tryz.st187 Tryz.ld192 Tryz.st192 Tryz.ld195 Tryz.st195 Tryz.ld217 Tryz.st217 Tryz.ld222 Tryz.st222 Tryz.ld241 Tryz.st241 Tryz.ld248 Tryz.st248 Tryz.ld268 Tryz.st268 Tryz.ld272 Tryz.st272 Tryz.ld129 Tryz.st129 Tryz.ld31 Tryz.st31 Tryz.ld52 Tryz.st52 Tryz.ld70 Tryz.st70 Tryz.ld74 Tryz.st74 Tryz.ld93 Tryz.st93 Tryz.al129 Tryz.al31 Tryz.al52 Tryz.al70 Tryz.al74 Tryz.al93
attribute [local go_sem] Request.length_enc Request.ok_enc Request.all_get Request.all_set Request.kind_get Request.kind_set Request.blob_get Request.blob_set Request.items_get Request.items_set Request.pred_get Request.pred_set Request.slots_get Request.slots_set Item.length_enc Item.ok_enc Item.all_get Item.all_set Item.del_get Item.del_set Item.pred_get Item.pred_set Item.args_get Item.args_set GOp.length_enc GOp.ok_enc GOp.all_get GOp.all_set GOp.kind_get GOp.kind_set GOp.raw_get GOp.raw_set Reader.length_enc Reader.ok_enc Reader.all_get Reader.all_set Reader.buf_get Reader.buf_set Reader.at__get Reader.at__set Slot.length_enc Slot.ok_enc Slot.all_get Slot.all_set Slot.bound_get Slot.bound_set Slot.name_get Slot.name_set
attribute [local go_sem] size_put size_ext blk_put free_put blk_alloc free_alloc blk_drew free_drew blk_ext free_ext lookOr_some putOr_some segAt_some cellAt_some storeIn_some put_put put_alloc_new length_arr ok_arr_u8 ok_arr_u32 ok_arr_u64 ok_arr_i64 ok_arr_sl cellsV_agg cellsV_int cellsV_bool cellsV_string cellsV_pointer cellsV_slice cellsV_sl ok_int ok_bool ok_string ok_pointer ok_slice ok_sl toList_arr seg_arr set_arr nth_splice nth_splice0 seg_splice seg_splice0 splice_splice splice_splice0 length_splice_if
attribute [local go_sem ↓] execOp_box
attribute [local go_sem] box_run nth_arr_u8 put_arr_u8 blk_drewN free_drewN put_drewN blk_raw free_raw
theorem or_i64 (y2 y3 : Nat) (h2 : y2 < 256) (h3 : y3 < 256) : bits .or .i64 ((y2 : Int) * 256) (y3 : Int) = ((y2 * 256 + y3 : Nat) : Int) := by
  have e : (y2 : Int) * 256 = ((y2 * 256 : Nat) : Int) := by omega
  have h1 : (BitVec.ofInt 64 ((y2 * 256 : Nat) : Int)).toNat = y2 * 256 := by
    rw [BitVec.ofInt_natCast, BitVec.toNat_ofNat]; exact Nat.mod_eq_of_lt (by omega)
  have h4 : (BitVec.ofInt 64 (y3 : Int)).toNat = y3 := by
    rw [BitVec.ofInt_natCast, BitVec.toNat_ofNat]; exact Nat.mod_eq_of_lt (by omega)
  have h5 : y2 * 256 ||| y3 = y2 * 256 + y3 := by
    have := Nat.two_pow_add_eq_or_of_lt (i := 8) (b := y3) (by omega) y2
    rw [show 2 ^ 8 * y2 = y2 * 256 by omega] at this
    exact this.symm
  rw [e]
  show IntKind.i64.wrap ((BitVec.ofInt 64 ((y2 * 256 : Nat) : Int) ||| BitVec.ofInt 64 (y3 : Int)).toNat : Int) = _
  rw [BitVec.toNat_or, h1, h4, h5, IntKind.wrap_i64]
  omega
def hdrF : List UInt8 → Int × Int
  | x0 :: x1 :: x2 :: x3 :: r => if x0.toNat ≠ 1 then (2, 0) else if x1.toNat = 0 ∨ 8 ≤ x1.toNat then (3, 0) else if x2.toNat * 256 + x3.toNat ≠ r.length then (4, 0) else (0, ((x1.toNat : Nat) : Int))
  | _ => (1, 0)
theorem hdrF_cons (x0 x1 x2 x3 : UInt8) (r : List UInt8) : hdrF (x0 :: x1 :: x2 :: x3 :: r) = if x0.toNat ≠ 1 then (2, 0) else if x1.toNat = 0 ∨ 8 ≤ x1.toNat then (3, 0) else if x2.toNat * 256 + x3.toNat ≠ r.length then (4, 0) else (0, ((x1.toNat : Nat) : Int)) := rfl
theorem hdrF_short {xs : List UInt8} (h : xs.length < 4) : hdrF xs = (1, 0) := by
  match xs, h with
  | [], _ => rfl
  | [_], _ => rfl
  | [_, _], _ => rfl
  | [_, _, _], _ => rfl
theorem four {xs : List UInt8} (h : 4 ≤ xs.length) : ∃ x0 x1 x2 x3 r, xs = x0 :: x1 :: x2 :: x3 :: r := by
  match xs, h with
  | x0 :: x1 :: x2 :: x3 :: r, _ => exact ⟨x0, x1, x2, x3, r, rfl⟩
theorem Bs.nat {W : World} {a : Option Addr} {n : Nat} {xs : List UInt8} (h : Bs W a n xs) {i : Nat} {x : UInt8} (hx : xs[i]? = some x) : ∃ b o C, a = some ⟨b, o, none⟩ ∧ blk W b = some C ∧ o + n ≤ C.length ∧ nth C (o + i) = some (.int .u8 ((x.toNat : Nat) : Int)) := by
  obtain ⟨b, o, C, x', h1, h2, h3, h4, h5⟩ := h.get (i := i) (by rw [← h.1]; exact (List.getElem?_eq_some_iff.1 hx).1)
  obtain rfl : x' = x := Option.some.inj (h4.symm.trans hx)
  exact ⟨b, o, C, h1, h2, h3, h5⟩
set_option maxRecDepth 20000 in
set_option maxHeartbeats 1000000 in
theorem header_any (W : World) (a : Option Addr) (n c : Nat) (hn : n ≤ 65536) (xs : List UInt8) (hX : Bs W a n xs) : Calls Tryz.prog 94 #[.slice a n c] W fun e W' => e = .returned (.tuple #[.int .i64 (hdrF xs).2, .int .i64 (hdrF xs).1]) ∧ ∃ k, W' = W.drewN k := by
  have HX : Hid (Bs W a n xs) := hX
  have hxl := hX.1
  clear hX
  by_cases h4 : n < 4
  · rw [hdrF_short (by omega)]
    have n1 : (n : Int) < 4 := by omega
    clear hxl
    go_enter Tryz.func94, Tryz.ntmps94
    go_wp2_with fail
    go_ret2
    exact ⟨rfl, 0, rfl⟩
  obtain ⟨x0, x1, x2, x3, r, rfl⟩ := four (xs := xs) (by omega)
  rw [hdrF_cons]
  obtain ⟨b, o, C, rfl, hC, hCl, v0⟩ := HX.out.nat (i := 0) (x := x0) rfl
  obtain ⟨_, _, _, e1, e2, _, v1⟩ := HX.out.nat (i := 1) (x := x1) rfl
  injection e1 with e1; injection e1 with e1 e3; subst e1 e3
  obtain rfl := Option.some.inj (e2.symm.trans hC)
  obtain ⟨_, _, _, e1, e4, _, v2⟩ := HX.out.nat (i := 2) (x := x2) rfl
  injection e1 with e1; injection e1 with e1 e3; subst e1 e3
  obtain rfl := Option.some.inj (e4.symm.trans hC)
  obtain ⟨_, _, _, e1, e5, _, v3⟩ := HX.out.nat (i := 3) (x := x3) rfl
  injection e1 with e1; injection e1 with e1 e3; subst e1 e3
  obtain rfl := Option.some.inj (e5.symm.trans hC)
  clear e2 e4 e5
  have hr : r.length = n - 4 := by simp at hxl; omega
  rw [hr]
  obtain ⟨y0, hy0⟩ : ∃ y, y = x0.toNat := ⟨_, rfl⟩
  obtain ⟨y1, hy1⟩ : ∃ y, y = x1.toNat := ⟨_, rfl⟩
  obtain ⟨y2, hy2⟩ : ∃ y, y = x2.toNat := ⟨_, rfl⟩
  obtain ⟨y3, hy3⟩ : ∃ y, y = x3.toNat := ⟨_, rfl⟩
  have b1 : y1 < 256 := by rw [hy1]; exact x1.toNat_lt
  have b2 : y2 < 256 := by rw [hy2]; exact x2.toNat_lt
  have b3 : y3 < 256 := by rw [hy3]; exact x3.toNat_lt
  rw [← hy0] at v0
  rw [← hy1] at v1
  rw [← hy2] at v2
  rw [← hy3] at v3
  rw [← hy0, ← hy1, ← hy2, ← hy3]
  rw [Nat.add_zero] at v0
  clear hy0 hy1 hy2 hy3 hxl hr HX
  have q0 : ¬ (n : Int) < 4 := by omega
  have q1 : (0 : Int) < (n : Int) := by omega
  have q2 : (1 : Int) < (n : Int) := by omega
  have q3 : (2 : Int) < (n : Int) := by omega
  have q4 : (3 : Int) < (n : Int) := by omega
  have w1 : IntKind.i64.wrap (y1 : Int) = (y1 : Int) := by rw [IntKind.wrap_i64]; omega
  have w2 : IntKind.i64.wrap (y2 : Int) = (y2 : Int) := by rw [IntKind.wrap_i64]; omega
  have w3 : IntKind.i64.wrap (y3 : Int) = (y3 : Int) := by rw [IntKind.wrap_i64]; omega
  go_enter Tryz.func94, Tryz.ntmps94
  have hor := or_i64 y2 y3 b2 b3
  by_cases c0 : y0 = 1
  · subst c0
    rw [if_neg (by decide)]
    by_cases c1 : y1 = 0 ∨ 8 ≤ y1
    · rw [if_pos c1]
      by_cases c2 : y1 = 0
      · subst c2
        clear hor c1
        go_wp2_with fail
        go_ret2
        exact ⟨rfl, 0, rfl⟩
      · have c11 : ¬ (y1 : Int) ≤ 0 := by omega
        have c12 : (8 : Int) ≤ (y1 : Int) := by omega
        clear hor c1
        go_wp2_with fail
        go_ret2
        exact ⟨rfl, 0, rfl⟩
    · rw [if_neg c1]
      have c11 : ¬ (y1 : Int) ≤ 0 := by omega
      have c12 : ¬ (8 : Int) ≤ (y1 : Int) := by omega
      have c13 : ¬ y1 = 0 := by omega
      by_cases c3 : y2 * 256 + y3 = n - 4
      · have c4 : ((bits .or .i64 ((y2 : Int) * 256) (y3 : Int)) != (n : Int) - 4) = false := by rw [hor, c3]; simp; omega
        rw [if_neg (by simp [c3])]
        clear hor c1 c3
        repeat go_step
        go_quiet (fail)
        go_wp2_with fail
        go_ret2
        exact ⟨rfl, _, rfl⟩
      · have c4 : ((bits .or .i64 ((y2 : Int) * 256) (y3 : Int)) != (n : Int) - 4) = true := by rw [hor]; simp; omega
        rw [if_pos (by simp [c3])]
        clear hor c1 c3
        repeat go_step
        go_quiet (fail)
        go_wp2_with fail
        go_ret2
        exact ⟨rfl, _, rfl⟩
  · rw [if_pos (by simp [c0])]
    have c01 : ¬ (y0 : Int) = 1 := by omega
    clear hor
    go_wp2_with fail
    go_ret2
    exact ⟨rfl, 0, rfl⟩
end Go.Proofs.Qxb6500787aGreat
