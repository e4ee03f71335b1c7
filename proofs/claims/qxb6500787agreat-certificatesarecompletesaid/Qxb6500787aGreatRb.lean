
import Derived.Test.Qxb6500787aGreatRa
import Derived.StillTailTactics
import Derived.Deep.QuietTactic
import Derived.BigQuiet
import Derived.Deep.RegionHeld
import Derived.Deep.CutRange
import Derived.Laws.ResultCell
import Derived.Laws.Rows
import Derived.DeepKeys
import Derived.DataBytes
import Derived.Laws.StructEq
import Derived.Laws.AppendOwn
import Derived.Laws.MakeOwn
set_option linter.unusedSimpArgs false
set_option linter.unusedVariables false
namespace Go.Proofs.Qxb6500787aGreat
open Go.RowKit Go.Blk
attribute [local go_sem ↓] execOp_load execOp_store execOp_alloc
attribute [local go_sem] Tryz.ld26 Tryz.st26 Tryz.ld27 Tryz.st27 Tryz.ld28 Tryz.st28 Tryz.ld3 Tryz.st3 Tryz.ld29 Tryz.st29 Tryz.ld4 Tryz.st4 Tryz.ld50 Tryz.st50 Tryz.ld68 Tryz.st68 Tryz.ld9 Tryz.st9 Tryz.ld2 Tryz.st2 Tryz.ld5 Tryz.st5 Tryz.ld12 Tryz.st12 Tryz.ld21 Tryz.st21 Tryz.ld22 Tryz.st22 Tryz.ld24 Tryz.st24 Tryz.ld32 Tryz.st32 Tryz.ld40 Tryz.st40 Tryz.ld44 Tryz.st44 Tryz.ld49 Tryz.st49 Tryz.ld58 Tryz.st58 Tryz.ld97 Tryz.st97 Tryz.ld101 Tryz.st101 Tryz.ld116 Tryz.st116 Tryz.ld121 Tryz.st121 Tryz.ld135 Tryz.st135 Tryz.ld136 Tryz.st136 Tryz.ld138 Tryz.st138 Tryz.ld139 Tryz.st139 Tryz.ld142 Tryz.st142 Tryz.ld143 Tryz.st143 Tryz.ld146 Tryz.st146 Tryz.ld148 Tryz.st148 Tryz.ld154 Tryz.st154 Tryz.ld159 Tryz.st159 Tryz.ld173 Tryz.st173 Tryz.ld183 Tryz.st183 Tryz.ld184 Tryz.st184 Tryz.ld187 Tryz.st187 Tryz.ld192 Tryz.st192 Tryz.ld195 Tryz.st195 Tryz.ld217 Tryz.st217 Tryz.ld222 Tryz.st222 Tryz.ld241 Tryz.st241 Tryz.ld248 Tryz.st248 Tryz.ld268 Tryz.st268 Tryz.ld272 Tryz.st272 Tryz.ld129 Tryz.st129 Tryz.ld31 Tryz.st31 Tryz.ld52 Tryz.st52 Tryz.ld70 Tryz.st70 Tryz.ld74 Tryz.st74 Tryz.ld93 Tryz.st93 Tryz.al129 Tryz.al31 Tryz.al52 Tryz.al70 Tryz.al74 Tryz.al93
attribute [local go_sem] Request.length_enc Request.ok_enc Request.all_get Request.all_set Request.kind_get Request.kind_set Request.blob_get Request.blob_set Request.items_get Request.items_set Request.pred_get Request.pred_set Request.slots_get Request.slots_set Item.length_enc Item.ok_enc Item.all_get Item.all_set Item.del_get Item.del_set Item.pred_get Item.pred_set Item.args_get Item.args_set GOp.length_enc GOp.ok_enc GOp.all_get GOp.all_set GOp.kind_get GOp.kind_set GOp.raw_get GOp.raw_set Reader.length_enc Reader.ok_enc Reader.all_get Reader.all_set Reader.buf_get Reader.buf_set Reader.at__get Reader.at__set Slot.length_enc Slot.ok_enc Slot.all_get Slot.all_set Slot.bound_get Slot.bound_set Slot.name_get Slot.name_set
attribute [local go_sem] size_put size_ext blk_put free_put blk_alloc free_alloc blk_drew free_drew blk_ext free_ext lookOr_some putOr_some segAt_some cellAt_some storeIn_some put_put put_alloc_new length_arr ok_arr_u8 ok_arr_u32 ok_arr_u64 ok_arr_i64 ok_arr_sl cellsV_agg cellsV_int cellsV_bool cellsV_string cellsV_pointer cellsV_slice cellsV_sl ok_int ok_bool ok_string ok_pointer ok_slice ok_sl toList_arr seg_arr set_arr nth_splice nth_splice0 seg_splice seg_splice0 splice_splice splice_splice0 length_splice_if
attribute [local go_sem ↓] execOp_box
attribute [local go_sem] box_run nth_arr_u8 put_arr_u8 blk_drewN free_drewN put_drewN blk_raw free_raw
attribute [local go_sem] rd_len rd0 rd1 rd_set1
attribute [local go_sem ↓] execOp_slice execOp_convert
set_option maxRecDepth 20000 in
set_option maxHeartbeats 1000000 in
theorem u8_some (w0 W : World) (br : Nat) (a : Option Addr) (n c p : Nat) (hR : Rdr w0 br a n c p W) (hn : n ≤ 65536) (hnc : n ≤ c) (hc : c ≤ 9223372036854775807) (xs : List UInt8) (hX : Bs w0 a n xs) (x : UInt8) (hx : xs[p]? = some x) : Calls Tryz.prog 82 #[.pointer (some ⟨br, 0, none⟩)] W fun e W' => e = .returned (.tuple #[.int .i64 (w8 x), .bool true]) ∧ Rdr w0 br a n c (p + 1) W' ∧ Side (isR br) W W' := by
  have HR : Hid (Rdr w0 br a n c p W) := hR
  have HX : Hid (Bs w0 a n xs) := hX
  obtain ⟨hb, hf, hext, hwb, hpn⟩ := hR
  clear hX
  have hpl : p < n := by have := (List.getElem?_eq_some_iff.1 hx).1; rw [HX.out.1] at this; exact this
  obtain ⟨b, o, C, x', rfl, hC, hCl, hx', hv⟩ := (HX.out.grow hext).get hpl
  obtain rfl : x' = x := Option.some.inj (hx'.symm.trans hx)
  obtain ⟨v0, v1⟩ := w8_le x'
  obtain ⟨v, hv'⟩ : ∃ v, v = w8 x' := ⟨_, rfl⟩
  rw [← hv'] at hv v0 v1 ⊢
  have hbb : b < w0.heap.size := by obtain ⟨b', o', C', e1, e2, _⟩ := HX.out.2.1 (by omega); injection e1 with e1; injection e1 with e1; rw [e1]; exact blk_lt e2
  have nb : ¬ b = br := by omega
  have p0 : (0 : Int) ≤ (p : Int) := by omega
  have p1 : (p : Int) < (n : Int) := by omega
  have p2 : ((p : Int)).toNat = p := by omega
  have hw : IntKind.i64.wrap v = v := by rw [IntKind.wrap_i64]; omega
  clear hx hx' hext
  go_enter Tryz.func82, Tryz.ntmps82
  go_wp2_with fail
  refine (left_any W br (some ⟨b, o, none⟩) n c p hb (by omega) hn).mono ?_
  rintro e W1 ⟨rfl, k1, rfl⟩
  have n1 : ¬ (((n - p : Nat) : Int) < 1) := by omega
  dsimp only
  repeat go_step
  go_quiet (fail)
  go_wp2_with fail
  go_ret2
  refine ⟨by first | rfl | (simp only [hw]; rfl), ?_, ?_⟩
  · exact (HR.out.step (q := p + 1) (by omega)).drewN _
  · exact (Side.put (D := isR br) (Side.refl _ _) rfl _).drewN _
set_option maxRecDepth 20000 in
theorem u8_none (w0 W : World) (br : Nat) (a : Option Addr) (n c p : Nat) (hR : Rdr w0 br a n c p W) (hn : n ≤ 65536) (hnc : n ≤ c) (hc : c ≤ 9223372036854775807) (xs : List UInt8) (hX : Bs w0 a n xs) (hp : p = n) : Calls Tryz.prog 82 #[.pointer (some ⟨br, 0, none⟩)] W fun e W' => e = .returned (.tuple #[.int .i64 0, .bool false]) ∧ Rdr w0 br a n c p W' ∧ Side (isR br) W W' := by
  have HR : Hid (Rdr w0 br a n c p W) := hR
  have HX : Hid (Bs w0 a n xs) := hX
  obtain ⟨hb, hf, hext, hwb, hpn⟩ := hR
  clear hX
  go_enter Tryz.func82, Tryz.ntmps82
  go_wp2_with fail
  refine (left_any W br a n c p hb (by omega) hn).mono ?_
  rintro e W1 ⟨rfl, k1, rfl⟩
  have n1 : (((n - p : Nat) : Int) < 1) := by omega
  dsimp only
  go_wp2_with fail
  go_ret2
  exact ⟨rfl, HR.out.drewN _, (Side.refl _ _).drewN _⟩
theorem Tryz.sl27 (w : World) (a : Option Addr) (len cap l h : Nat) (h1 : l ≤ h) (h2 : h ≤ cap) : (sliceOp 31 (.slice a len cap) (some (.int .i64 (l : Int))) (some (.int .i64 (h : Int))) none).run Tryz.prog w = .ok (.value (.slice (cutA a l cap) (h - l) (cap - l))) w := slice_lohi Tryz.underlying31 (by kernel_rfl) w a len cap l h h1 h2
theorem Tryz.sl27lo (w : World) (a : Option Addr) (len cap l : Nat) (h : l ≤ len) : (sliceOp 31 (.slice a len cap) (some (.int .i64 (l : Int))) none none).run Tryz.prog w = .ok (.value (.slice (cutA a l cap) (len - l) (cap - l))) w := slice_lo Tryz.underlying31 (by kernel_rfl) w a len cap l h
set_option maxRecDepth 20000 in
set_option maxHeartbeats 1000000 in
theorem take_ok (w0 W : World) (br : Nat) (a : Option Addr) (n c p : Nat) (hR : Rdr w0 br a n c p W) (hn : n ≤ 65536) (hnc : n ≤ c) (hc : c ≤ 9223372036854775807) (xs : List UInt8) (hX : Bs w0 a n xs) (k : Nat) (hk : p + k ≤ n) : Calls Tryz.prog 95 #[.pointer (some ⟨br, 0, none⟩), .int .i64 (k : Nat)] W fun e W' => e = .returned (.tuple #[.slice (cutA a p c) k (c - p), .bool true]) ∧ Rdr w0 br a n c (p + k) W' ∧ Side (isR br) W W' := by
  have HR : Hid (Rdr w0 br a n c p W) := hR
  have HX : Hid (Bs w0 a n xs) := hX
  obtain ⟨hb, hf, hext, hwb, hpn⟩ := hR
  clear hX
  have hsl : ∀ W', (sliceOp 31 (.slice a n c) (some (.int .i64 (p : Int))) (some (.int .i64 ((p : Int) + (k : Int)))) none).run Tryz.prog W' = .ok (.value (.slice (cutA a p c) k (c - p))) W' := fun W' => by
    have := Tryz.sl27 W' a n c p (p + k) (by omega) (by omega)
    rw [show p + k - p = k by omega] at this
    rw [← this]; congr 3
  have hw : IntKind.i64.wrap ((p : Int) + (k : Int)) = (p : Int) + (k : Int) := by rw [IntKind.wrap_i64]; omega
  clear hext
  go_enter Tryz.func95, Tryz.ntmps95
  go_wp2_with fail
  refine (left_any W br a n c p hb (by omega) hn).mono ?_
  rintro e W1 ⟨rfl, k1, rfl⟩
  have n1 : ¬ (((n - p : Nat) : Int) < (k : Int)) := by omega
  dsimp only
  repeat go_step
  go_quiet (fail)
  go_wp2_with fail
  go_ret2
  refine ⟨by rfl, ?_, ?_⟩
  · exact (HR.out.step (q := p + k) (by omega)).drewN _
  · exact (Side.put (D := isR br) (Side.refl _ _) rfl _).drewN _
set_option maxRecDepth 20000 in
theorem take_no (w0 W : World) (br : Nat) (a : Option Addr) (n c p : Nat) (hR : Rdr w0 br a n c p W) (hn : n ≤ 65536) (hnc : n ≤ c) (hc : c ≤ 9223372036854775807) (xs : List UInt8) (hX : Bs w0 a n xs) (k : Nat) (hk : n < p + k) : Calls Tryz.prog 95 #[.pointer (some ⟨br, 0, none⟩), .int .i64 (k : Nat)] W fun e W' => e = .returned (.tuple #[.slice none 0 0, .bool false]) ∧ Rdr w0 br a n c p W' ∧ Side (isR br) W W' := by
  have HR : Hid (Rdr w0 br a n c p W) := hR
  have HX : Hid (Bs w0 a n xs) := hX
  obtain ⟨hb, hf, hext, hwb, hpn⟩ := hR
  clear hX
  go_enter Tryz.func95, Tryz.ntmps95
  go_wp2_with fail
  refine (left_any W br a n c p hb (by omega) hn).mono ?_
  rintro e W1 ⟨rfl, k1, rfl⟩
  have n1 : (((n - p : Nat) : Int) < (k : Int)) := by omega
  dsimp only
  go_wp2_with fail
  go_ret2
  exact ⟨rfl, HR.out.drewN _, (Side.refl _ _).drewN _⟩
end Go.Proofs.Qxb6500787aGreat
