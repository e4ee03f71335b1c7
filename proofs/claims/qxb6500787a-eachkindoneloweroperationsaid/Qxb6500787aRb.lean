import Derived.Test.Qxb6500787aRa
import Derived.StillTailTactics
import Derived.Deep.QuietTactic
import Derived.BigQuiet
import Derived.Deep.RegionHeld
import Derived.Deep.CutRange
import Derived.Laws.ResultCell
import Derived.Laws.Rows
import Derived.DeepKeys
import Derived.DataBytes
import Derived.Laws.StructEq
import Derived.Laws.AppendOwn
import Derived.Laws.MakeOwn
set_option linter.unusedSimpArgs false
set_option linter.unusedVariables false
namespace Go.Proofs.Qxb6500787a
open Go.RowKit Go.Blk
attribute [local go_sem ↓] execOp_load execOp_store execOp_alloc
attribute [local go_sem] Try.ld26 Try.st26 Try.ld27 Try.st27 Try.ld28 Try.st28 Try.ld3 Try.st3 Try.ld29 Try.st29 Try.ld4 Try.st4 Try.ld50 Try.st50 Try.ld68 Try.st68 Try.ld9 Try.st9 Try.ld2 Try.st2 Try.ld5 Try.st5 Try.ld12 Try.st12 Try.ld21 Try.st21 Try.ld22 Try.st22 Try.ld24 Try.st24 Try.ld32 Try.st32 Try.ld40 Try.st40 Try.ld44 Try.st44 Try.ld49 Try.st49 Try.ld58 Try.st58 Try.ld63 Try.st63 Try.ld97 Try.st97 Try.ld101 Try.st101 Try.ld116 Try.st116 Try.ld121 Try.st121 Try.ld135 Try.st135 Try.ld136 Try.st136 Try.ld138 Try.st138 Try.ld139 Try.st139 Try.ld142 Try.st142 Try.ld143 Try.st143 Try.ld146 Try.st146 Try.ld148 Try.st148 Try.ld154 Try.st154 Try.ld159 Try.st159 Try.ld173 Try.st173 Try.ld183 Try.st183 Try.ld184 Try.st184 Try.ld187 Try.st187 Try.ld192 Try.st192 Try.ld195 Try.st195 Try.ld217 Try.st217 Try.ld222 Try.st222 Try.ld241 Try.st241 Try.ld248 Try.st248 Try.ld268 Try.st268 Try.ld272 Try.st272 Try.ld129 Try.st129 Try.ld31 Try.st31 Try.ld52 Try.st52 Try.ld70 Try.st70 Try.ld74 Try.st74 Try.ld93 Try.st93 Try.al129 Try.al31 Try.al52 Try.al70 Try.al74 Try.al93
attribute [local go_sem] Request.length_enc Request.ok_enc Request.all_get Request.all_set Request.kind_get Request.kind_set Request.blob_get Request.blob_set Request.items_get Request.items_set Request.pred_get Request.pred_set Request.slots_get Request.slots_set Item.length_enc Item.ok_enc Item.all_get Item.all_set Item.del_get Item.del_set Item.pred_get Item.pred_set Item.args_get Item.args_set GOp.length_enc GOp.ok_enc GOp.all_get GOp.all_set GOp.kind_get GOp.kind_set GOp.raw_get GOp.raw_set Reader.length_enc Reader.ok_enc Reader.all_get Reader.all_set Reader.buf_get Reader.buf_set Reader.at__get Reader.at__set Slot.length_enc Slot.ok_enc Slot.all_get Slot.all_set Slot.bound_get Slot.bound_set Slot.name_get Slot.name_set
attribute [local go_sem] size_put size_ext blk_put free_put blk_alloc free_alloc blk_drew free_drew blk_ext free_ext lookOr_some putOr_some segAt_some cellAt_some storeIn_some put_put put_alloc_new length_arr ok_arr_u8 ok_arr_u32 ok_arr_u64 ok_arr_i64 ok_arr_sl cellsV_agg cellsV_int cellsV_bool cellsV_string cellsV_pointer cellsV_slice cellsV_sl ok_int ok_bool ok_string ok_pointer ok_slice ok_sl toList_arr seg_arr set_arr nth_splice nth_splice0 seg_splice seg_splice0 splice_splice splice_splice0 length_splice_if
attribute [local go_sem ↓] execOp_box
attribute [local go_sem] box_run nth_arr_u8 put_arr_u8 blk_drewN free_drewN put_drewN blk_raw free_raw
attribute [local go_sem] rd_len rd0 rd1 rd_set1
attribute [local go_sem ↓] execOp_slice execOp_convert
set_option maxRecDepth 20000 in
set_option maxHeartbeats 1000000 in
theorem u8_some (w0 W : World) (br : Nat) (a : Option Addr) (n c p : Nat) (hR : Rdr w0 br a n c p W) (hn : n ≤ 65536) (hnc : n ≤ c) (hc : c ≤ 9223372036854775807) (xs : List UInt8) (hX : Bs w0 a n xs) (x : UInt8) (hx : xs[p]? = some x) : Calls Try.prog 40 #[.pointer (some ⟨br, 0, none⟩)] W fun e W' => e = .returned (.tuple #[.int .i64 (w8 x), .bool true]) ∧ Rdr w0 br a n c (p + 1) W' ∧ Side (isR br) W W' := by
  have HR : Hid (Rdr w0 br a n c p W) := hR
  have HX : Hid (Bs w0 a n xs) := hX
  obtain ⟨hb, hf, hext, hwb, hpn⟩ := hR
  clear hX
  have hpl : p < n := by have := (List.getElem?_eq_some_iff.1 hx).1; rw [HX.out.1] at this; exact this
  obtain ⟨b, o, C, x', rfl, hC, hCl, hx', hv⟩ := (HX.out.grow hext).get hpl
  obtain rfl : x' = x := Option.some.inj (hx'.symm.trans hx)
  obtain ⟨v0, v1⟩ := w8_le x'
  obtain ⟨v, hv'⟩ : ∃ v, v = w8 x' := ⟨_, rfl⟩
  rw [← hv'] at hv v0 v1 ⊢
  have hbb : b < w0.heap.size := by obtain ⟨b', o', C', e1, e2, _⟩ := HX.out.2.1 (by omega); injection e1 with e1; injection e1 with e1; rw [e1]; exact blk_lt e2
  have nb : ¬ b = br := by omega
  have p0 : (0 : Int) ≤ (p : Int) := by omega
  have p1 : (p : Int) < (n : Int) := by omega
  have p2 : ((p : Int)).toNat = p := by omega
  have hw : IntKind.i64.wrap v = v := by rw [IntKind.wrap_i64]; omega
  clear hx hx' hext
  go_enter Try.func40, Try.ntmps40
  go_wp2_with fail
  refine (left_any W br (some ⟨b, o, none⟩) n c p hb (by omega) hn).mono ?_
  rintro e W1 ⟨rfl, k1, rfl⟩
  have n1 : ¬ (((n - p : Nat) : Int) < 1) := by omega
  dsimp only
  repeat go_step
  go_quiet (fail)
  go_wp2_with fail
  go_ret2
  refine ⟨by first | rfl | (simp only [hw]; rfl), ?_, ?_⟩
  · exact (HR.out.step (q := p + 1) (by omega)).drewN _
  · exact (Side.put (D := isR br) (Side.refl _ _) rfl _).drewN _
set_option maxRecDepth 20000 in
theorem u8_none (w0 W : World) (br : Nat) (a : Option Addr) (n c p : Nat) (hR : Rdr w0 br a n c p W) (hn : n ≤ 65536) (hnc : n ≤ c) (hc : c ≤ 9223372036854775807) (xs : List UInt8) (hX : Bs w0 a n xs) (hp : p = n) : Calls Try.prog 40 #[.pointer (some ⟨br, 0, none⟩)] W fun e W' => e = .returned (.tuple #[.int .i64 0, .bool false]) ∧ Rdr w0 br a n c p W' ∧ Side (isR br) W W' := by
  have HR : Hid (Rdr w0 br a n c p W) := hR
  have HX : Hid (Bs w0 a n xs) := hX
  obtain ⟨hb, hf, hext, hwb, hpn⟩ := hR
  clear hX
  go_enter Try.func40, Try.ntmps40
  go_wp2_with fail
  refine (left_any W br a n c p hb (by omega) hn).mono ?_
  rintro e W1 ⟨rfl, k1, rfl⟩
  have n1 : (((n - p : Nat) : Int) < 1) := by omega
  dsimp only
  go_wp2_with fail
  go_ret2
  exact ⟨rfl, HR.out.drewN _, (Side.refl _ _).drewN _⟩
theorem Try.sl27 (w : World) (a : Option Addr) (len cap l h : Nat) (h1 : l ≤ h) (h2 : h ≤ cap) : (sliceOp 27 (.slice a len cap) (some (.int .i64 (l : Int))) (some (.int .i64 (h : Int))) none).run Try.prog w = .ok (.value (.slice (cutA a l cap) (h - l) (cap - l))) w := slice_lohi Try.underlying27 (by kernel_rfl) w a len cap l h h1 h2
theorem Try.sl27lo (w : World) (a : Option Addr) (len cap l : Nat) (h : l ≤ len) : (sliceOp 27 (.slice a len cap) (some (.int .i64 (l : Int))) none none).run Try.prog w = .ok (.value (.slice (cutA a l cap) (len - l) (cap - l))) w := slice_lo Try.underlying27 (by kernel_rfl) w a len cap l h
set_option maxRecDepth 20000 in
set_option maxHeartbeats 1000000 in
theorem take_ok (w0 W : World) (br : Nat) (a : Option Addr) (n c p : Nat) (hR : Rdr w0 br a n c p W) (hn : n ≤ 65536) (hnc : n ≤ c) (hc : c ≤ 9223372036854775807) (xs : List UInt8) (hX : Bs w0 a n xs) (k : Nat) (hk : p + k ≤ n) : Calls Try.prog 36 #[.pointer (some ⟨br, 0, none⟩), .int .i64 (k : Nat)] W fun e W' => e = .returned (.tuple #[.slice (cutA a p c) k (c - p), .bool true]) ∧ Rdr w0 br a n c (p + k) W' ∧ Side (isR br) W W' := by
  have HR : Hid (Rdr w0 br a n c p W) := hR
  have HX : Hid (Bs w0 a n xs) := hX
  obtain ⟨hb, hf, hext, hwb, hpn⟩ := hR
  clear hX
  have hsl : ∀ W', (sliceOp 27 (.slice a n c) (some (.int .i64 (p : Int))) (some (.int .i64 ((p : Int) + (k : Int)))) none).run Try.prog W' = .ok (.value (.slice (cutA a p c) k (c - p))) W' := fun W' => by
    have := Try.sl27 W' a n c p (p + k) (by omega) (by omega)
    rw [show p + k - p = k by omega] at this
    rw [← this]; congr 3
  have hw : IntKind.i64.wrap ((p : Int) + (k : Int)) = (p : Int) + (k : Int) := by rw [IntKind.wrap_i64]; omega
  clear hext
  go_enter Try.func36, Try.ntmps36
  go_wp2_with fail
  refine (left_any W br a n c p hb (by omega) hn).mono ?_
  rintro e W1 ⟨rfl, k1, rfl⟩
  have n1 : ¬ (((n - p : Nat) : Int) < (k : Int)) := by omega
  dsimp only
  repeat go_step
  go_quiet (fail)
  go_wp2_with fail
  go_ret2
  refine ⟨by rfl, ?_, ?_⟩
  · exact (HR.out.step (q := p + k) (by omega)).drewN _
  · exact (Side.put (D := isR br) (Side.refl _ _) rfl _).drewN _
set_option maxRecDepth 20000 in
theorem take_no (w0 W : World) (br : Nat) (a : Option Addr) (n c p : Nat) (hR : Rdr w0 br a n c p W) (hn : n ≤ 65536) (hnc : n ≤ c) (hc : c ≤ 9223372036854775807) (xs : List UInt8) (hX : Bs w0 a n xs) (k : Nat) (hk : n < p + k) : Calls Try.prog 36 #[.pointer (some ⟨br, 0, none⟩), .int .i64 (k : Nat)] W fun e W' => e = .returned (.tuple #[.slice none 0 0, .bool false]) ∧ Rdr w0 br a n c p W' ∧ Side (isR br) W W' := by
  have HR : Hid (Rdr w0 br a n c p W) := hR
  have HX : Hid (Bs w0 a n xs) := hX
  obtain ⟨hb, hf, hext, hwb, hpn⟩ := hR
  clear hX
  go_enter Try.func36, Try.ntmps36
  go_wp2_with fail
  refine (left_any W br a n c p hb (by omega) hn).mono ?_
  rintro e W1 ⟨rfl, k1, rfl⟩
  have n1 : (((n - p : Nat) : Int) < (k : Int)) := by omega
  dsimp only
  go_wp2_with fail
  go_ret2
  exact ⟨rfl, HR.out.drewN _, (Side.refl _ _).drewN _⟩
end Go.Proofs.Qxb6500787a
