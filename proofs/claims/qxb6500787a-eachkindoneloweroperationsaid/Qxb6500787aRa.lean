import Derived.Test.Qxb6500787aBt
import Derived.StillTailTactics
import Derived.Deep.QuietTactic
import Derived.BigQuiet
import Derived.Deep.RegionHeld
import Derived.Deep.CutRange
import Derived.Laws.ResultCell
import Derived.Laws.Rows
import Derived.DeepKeys
import Derived.DataBytes
import Derived.Laws.StructEq
import Derived.Laws.AppendOwn
import Derived.Laws.MakeOwn
set_option linter.unusedSimpArgs false
set_option linter.unusedVariables false
namespace Go.Proofs.Qxb6500787a
open Go.RowKit Go.Blk
attribute [local go_sem ↓] execOp_load execOp_store execOp_alloc
attribute [local go_sem] Try.ld26 Try.st26 Try.ld27 Try.st27 Try.ld28 Try.st28 Try.ld3 Try.st3 Try.ld29 Try.st29 Try.ld4 Try.st4 Try.ld50 Try.st50 Try.ld68 Try.st68 Try.ld9 Try.st9 Try.ld2 Try.st2 Try.ld5 Try.st5 Try.ld12 Try.st12 Try.ld21 Try.st21 Try.ld22 Try.st22 Try.ld24 Try.st24 Try.ld32 Try.st32 Try.ld40 Try.st40 Try.ld44 Try.st44 Try.ld49 Try.st49 Try.ld58 Try.st58 Try.ld63 Try.st63 Try.ld97 Try.st97 Try.ld101 Try.st101 Try.ld116 Try.st116 Try.ld121 Try.st121 Try.ld135 Try.st135 Try.ld136 Try.st136 Try.ld138 Try.st138 Try.ld139 Try.st139 Try.ld142 Try.st142 Try.ld143 Try.st143 Try.ld146 Try.st146 Try.ld148 Try.st148 Try.ld154 Try.st154 Try.ld159 Try.st159 Try.ld173 Try.st173 Try.ld183 Try.st183 Try.ld184 Try.st184 Try.ld187 Try.st187 Try.ld192 Try.st192 Try.ld195 Try.st195 Try.ld217 Try.st217 Try.ld222 Try.st222 Try.ld241 Try.st241 Try.ld248 Try.st248 Try.ld268 Try.st268 Try.ld272 Try.st272 Try.ld129 Try.st129 Try.ld31 Try.st31 Try.ld52 Try.st52 Try.ld70 Try.st70 Try.ld74 Try.st74 Try.ld93 Try.st93 Try.al129 Try.al31 Try.al52 Try.al70 Try.al74 Try.al93
attribute [local go_sem] Request.length_enc Request.ok_enc Request.all_get Request.all_set Request.kind_get Request.kind_set Request.blob_get Request.blob_set Request.items_get Request.items_set Request.pred_get Request.pred_set Request.slots_get Request.slots_set Item.length_enc Item.ok_enc Item.all_get Item.all_set Item.del_get Item.del_set Item.pred_get Item.pred_set Item.args_get Item.args_set GOp.length_enc GOp.ok_enc GOp.all_get GOp.all_set GOp.kind_get GOp.kind_set GOp.raw_get GOp.raw_set Reader.length_enc Reader.ok_enc Reader.all_get Reader.all_set Reader.buf_get Reader.buf_set Reader.at__get Reader.at__set Slot.length_enc Slot.ok_enc Slot.all_get Slot.all_set Slot.bound_get Slot.bound_set Slot.name_get Slot.name_set
attribute [local go_sem] size_put size_ext blk_put free_put blk_alloc free_alloc blk_drew free_drew blk_ext free_ext lookOr_some putOr_some segAt_some cellAt_some storeIn_some put_put put_alloc_new length_arr ok_arr_u8 ok_arr_u32 ok_arr_u64 ok_arr_i64 ok_arr_sl cellsV_agg cellsV_int cellsV_bool cellsV_string cellsV_pointer cellsV_slice cellsV_sl ok_int ok_bool ok_string ok_pointer ok_slice ok_sl toList_arr seg_arr set_arr nth_splice nth_splice0 seg_splice seg_splice0 splice_splice splice_splice0 length_splice_if
attribute [local go_sem ↓] execOp_box
attribute [local go_sem] box_run nth_arr_u8 put_arr_u8 blk_drewN free_drewN put_drewN blk_raw free_raw
def rdE (a : Option Addr) (n c : Nat) (p : Int) : List Value := Reader.enc ⟨⟨a, n, c⟩, p⟩
theorem rd_len (a : Option Addr) (n c : Nat) (p : Int) : (rdE a n c p).length = 2 := rfl
theorem rd0 (a : Option Addr) (n c : Nat) (p : Int) : nth (rdE a n c p) 0 = some (.slice a n c) := rfl
theorem rd1 (a : Option Addr) (n c : Nat) (p : Int) : nth (rdE a n c p) 1 = some (.int .i64 p) := rfl
theorem rd_set1 (a : Option Addr) (n c : Nat) (p q : Int) : splice (rdE a n c p) 1 [.int .i64 q] = rdE a n c q := rfl
/-- The reader: it has read p of n bytes. -/
def Rdr (w0 : World) (br : Nat) (a : Option Addr) (n c p : Nat) (W : World) : Prop := blk W br = some (rdE a n c (p : Nat)) ∧ free W br = true ∧ w0.Extends W ∧ w0.heap.size ≤ br ∧ p ≤ n
def isR (br k : Nat) : Prop := k = br
theorem Rdr.step {w0 : World} {br : Nat} {a : Option Addr} {n c p q : Nat} {W : World} (h : Rdr w0 br a n c p W) (hq : q ≤ n) : Rdr w0 br a n c q (put W br (rdE a n c (q : Nat))) := by
  obtain ⟨h1, h2, h3, h4, h5⟩ := h
  exact ⟨by rw [blk_put, if_pos rfl, h1]; rfl, by rw [free_put]; exact h2, (Side.put (D := isR br) (Side.refl _ _) rfl _).extends h3 (fun k hk => by rw [show k = br from hk]; exact h4), h4, hq⟩
theorem Rdr.drewN {w0 : World} {br : Nat} {a : Option Addr} {n c p : Nat} {W : World} (h : Rdr w0 br a n c p W) (k : Nat) : Rdr w0 br a n c p (W.drewN k) := by
  obtain ⟨h1, h2, h3, h4, h5⟩ := h
  exact ⟨h1, h2, extends_drewN h3 k, h4, h5⟩
theorem Rdr.ext {w0 : World} {br : Nat} {a : Option Addr} {n c p : Nat} {W W' : World} (h : Rdr w0 br a n c p W) (he : W.Extends W') : Rdr w0 br a n c p W' := by
  obtain ⟨h1, h2, h3, h4, h5⟩ := h
  exact ⟨(he.blk (blk_lt h1)).trans h1, (free_of_heap (he.block br (blk_lt h1))).trans h2, h3.trans he, h4, h5⟩
def nameF : List UInt8 → Int × List UInt8 × List UInt8
  | [] => (5, [], [])
  | k :: ys => if 64 < k.toNat then (9, [], []) else if ys.length < k.toNat then (5, [], []) else (0, ys.take k.toNat, ys.drop k.toNat)
theorem drop_at {xs : List UInt8} {p : Nat} {x : UInt8} (h : xs[p]? = some x) : xs.drop p = x :: xs.drop (p + 1) := by
  obtain ⟨hp, rfl⟩ := List.getElem?_eq_some_iff.1 h
  exact List.drop_eq_getElem_cons hp
theorem w8_le (x : UInt8) : 0 ≤ w8 x ∧ w8 x ≤ 255 := by have := x.toNat_lt; unfold w8; omega
attribute [local go_sem] rd_len rd0 rd1 rd_set1
attribute [local go_sem ↓] execOp_slice execOp_convert
theorem left_any (W : World) (br : Nat) (a : Option Addr) (n c p : Nat) (hb : blk W br = some (rdE a n c (p : Nat))) (hp : p ≤ n) (hn : n ≤ 65536) : Calls Try.prog 37 #[.pointer (some ⟨br, 0, none⟩)] W fun e W' => e = .returned (.int .i64 ((n - p : Nat) : Int)) ∧ ∃ k, W' = W.drewN k := by
  have hw : IntKind.i64.wrap ((n : Int) - (p : Int)) = ((n - p : Nat) : Int) := by rw [IntKind.wrap_i64]; omega
  go_enter Try.func37, Try.ntmps37
  repeat go_step
  go_quiet (fail)
  go_wp2_with fail
  go_ret
  refine ⟨?_, _, rfl⟩
  first | rfl | (congr 1; first | exact congrArg _ hw | (simp; omega))
end Go.Proofs.Qxb6500787a
