
import Derived.Test.Qxb6500787aGreatBt
import Derived.StillTailTactics
import Derived.Deep.QuietTactic
import Derived.BigQuiet
import Derived.Deep.RegionHeld
import Derived.Deep.CutRange
import Derived.Laws.ResultCell
import Derived.Laws.Rows
import Derived.DeepKeys
import Derived.DataBytes
import Derived.Laws.StructEq
import Derived.Laws.AppendOwn
import Derived.Laws.MakeOwn
set_option linter.unusedSimpArgs false
set_option linter.unusedVariables false
namespace Go.Proofs.Qxb6500787aGreat
open Go.RowKit Go.Blk
attribute [local go_sem ↓] execOp_load execOp_store execOp_alloc
attribute [local go_sem] Tryz.ld26 Tryz.st26 Tryz.ld27 Tryz.st27 Tryz.ld28 Tryz.st28 Tryz.ld3 Tryz.st3 Tryz.ld29 Tryz.st29 Tryz.ld4 Tryz.st4 Tryz.ld50 Tryz.st50 Tryz.ld68 Tryz.st68 Tryz.ld9 Tryz.st9 Tryz.ld2 Tryz.st2 Tryz.ld5 Tryz.st5 Tryz.ld12 Tryz.st12 Tryz.ld21 Tryz.st21 Tryz.ld22 Tryz.st22 Tryz.ld24 Tryz.st24 Tryz.ld32 Tryz.st32 Tryz.ld40 Tryz.st40 Tryz.ld44 Tryz.st44 Tryz.ld49 Tryz.st49 Tryz.ld58 Tryz.st58 Tryz.ld97 Tryz.st97 Tryz.ld101 Tryz.st101 Tryz.ld116 Tryz.st116 Tryz.ld121 Tryz.st121 Tryz.ld135 Tryz.st135 Tryz.ld136 Tryz.st136 Tryz.ld138 Tryz.st138 Tryz.ld139 Tryz.st139 Tryz.ld142 Tryz.st142 Tryz.ld143 Tryz.st143 Tryz.ld146 Tryz.st146 Tryz.ld148 Tryz.st148 Tryz.ld154 Tryz.st154 Tryz.ld159 Tryz.st159 Tryz.ld173 Tryz.st173 Tryz.ld183 Tryz.st183 Tryz.ld184 Tryz.st184 Tryz.ld187 Tryz.st187 Tryz.ld192 Tryz.st192 Tryz.ld195 Tryz.st195 Tryz.ld217 Tryz.st217 Tryz.ld222 Tryz.st222 Tryz.ld241 Tryz.st241 Tryz.ld248 Tryz.st248 Tryz.ld268 Tryz.st268 Tryz.ld272 Tryz.st272 Tryz.ld129 Tryz.st129 Tryz.ld31 Tryz.st31 Tryz.ld52 Tryz.st52 Tryz.ld70 Tryz.st70 Tryz.ld74 Tryz.st74 Tryz.ld93 Tryz.st93 Tryz.al129 Tryz.al31 Tryz.al52 Tryz.al70 Tryz.al74 Tryz.al93
attribute [local go_sem] Request.length_enc Request.ok_enc Request.all_get Request.all_set Request.kind_get Request.kind_set Request.blob_get Request.blob_set Request.items_get Request.items_set Request.pred_get Request.pred_set Request.slots_get Request.slots_set Item.length_enc Item.ok_enc Item.all_get Item.all_set Item.del_get Item.del_set Item.pred_get Item.pred_set Item.args_get Item.args_set GOp.length_enc GOp.ok_enc GOp.all_get GOp.all_set GOp.kind_get GOp.kind_set GOp.raw_get GOp.raw_set Reader.length_enc Reader.ok_enc Reader.all_get Reader.all_set Reader.buf_get Reader.buf_set Reader.at__get Reader.at__set Slot.length_enc Slot.ok_enc Slot.all_get Slot.all_set Slot.bound_get Slot.bound_set Slot.name_get Slot.name_set
attribute [local go_sem] size_put size_ext blk_put free_put blk_alloc free_alloc blk_drew free_drew blk_ext free_ext lookOr_some putOr_some segAt_some cellAt_some storeIn_some put_put put_alloc_new length_arr ok_arr_u8 ok_arr_u32 ok_arr_u64 ok_arr_i64 ok_arr_sl cellsV_agg cellsV_int cellsV_bool cellsV_string cellsV_pointer cellsV_slice cellsV_sl ok_int ok_bool ok_string ok_pointer ok_slice ok_sl toList_arr seg_arr set_arr nth_splice nth_splice0 seg_splice seg_splice0 splice_splice splice_splice0 length_splice_if
attribute [local go_sem ↓] execOp_box
attribute [local go_sem] box_run nth_arr_u8 put_arr_u8 blk_drewN free_drewN put_drewN blk_raw free_raw
def rdE (a : Option Addr) (n c : Nat) (p : Int) : List Value := Reader.enc ⟨⟨a, n, c⟩, p⟩
theorem rd_len (a : Option Addr) (n c : Nat) (p : Int) : (rdE a n c p).length = 2 := rfl
theorem rd0 (a : Option Addr) (n c : Nat) (p : Int) : nth (rdE a n c p) 0 = some (.slice a n c) := rfl
theorem rd1 (a : Option Addr) (n c : Nat) (p : Int) : nth (rdE a n c p) 1 = some (.int .i64 p) := rfl
theorem rd_set1 (a : Option Addr) (n c : Nat) (p q : Int) : splice (rdE a n c p) 1 [.int .i64 q] = rdE a n c q := rfl
/-- The reader: it has read p of n bytes. -/
def Rdr (w0 : World) (br : Nat) (a : Option Addr) (n c p : Nat) (W : World) : Prop := blk W br = some (rdE a n c (p : Nat)) ∧ free W br = true ∧ w0.Extends W ∧ w0.heap.size ≤ br ∧ p ≤ n
def isR (br k : Nat) : Prop := k = br
theorem Rdr.step {w0 : World} {br : Nat} {a : Option Addr} {n c p q : Nat} {W : World} (h : Rdr w0 br a n c p W) (hq : q ≤ n) : Rdr w0 br a n c q (put W br (rdE a n c (q : Nat))) := by
  obtain ⟨h1, h2, h3, h4, h5⟩ := h
  exact ⟨by rw [blk_put, if_pos rfl, h1]; rfl, by rw [free_put]; exact h2, (Side.put (D := isR br) (Side.refl _ _) rfl _).extends h3 (fun k hk => by rw [show k = br from hk]; exact h4), h4, hq⟩
theorem Rdr.drewN {w0 : World} {br : Nat} {a : Option Addr} {n c p : Nat} {W : World} (h : Rdr w0 br a n c p W) (k : Nat) : Rdr w0 br a n c p (W.drewN k) := by
  obtain ⟨h1, h2, h3, h4, h5⟩ := h
  exact ⟨h1, h2, extends_drewN h3 k, h4, h5⟩
theorem Rdr.ext {w0 : World} {br : Nat} {a : Option Addr} {n c p : Nat} {W W' : World} (h : Rdr w0 br a n c p W) (he : W.Extends W') : Rdr w0 br a n c p W' := by
  obtain ⟨h1, h2, h3, h4, h5⟩ := h
  exact ⟨(he.blk (blk_lt h1)).trans h1, (free_of_heap (he.block br (blk_lt h1))).trans h2, h3.trans he, h4, h5⟩
def nameF : List UInt8 → Int × List UInt8 × List UInt8
  | [] => (5, [], [])
  | k :: ys => if 64 < k.toNat then (9, [], []) else if ys.length < k.toNat then (5, [], []) else (0, ys.take k.toNat, ys.drop k.toNat)
theorem drop_at {xs : List UInt8} {p : Nat} {x : UInt8} (h : xs[p]? = some x) : xs.drop p = x :: xs.drop (p + 1) := by
  obtain ⟨hp, rfl⟩ := List.getElem?_eq_some_iff.1 h
  exact List.drop_eq_getElem_cons hp
theorem w8_le (x : UInt8) : 0 ≤ w8 x ∧ w8 x ≤ 255 := by have := x.toNat_lt; unfold w8; omega
attribute [local go_sem] rd_len rd0 rd1 rd_set1
attribute [local go_sem ↓] execOp_slice execOp_convert
theorem left_any (W : World) (br : Nat) (a : Option Addr) (n c p : Nat) (hb : blk W br = some (rdE a n c (p : Nat))) (hp : p ≤ n) (hn : n ≤ 65536) : Calls Tryz.prog 81 #[.pointer (some ⟨br, 0, none⟩)] W fun e W' => e = .returned (.int .i64 ((n - p : Nat) : Int)) ∧ ∃ k, W' = W.drewN k := by
  have hw : IntKind.i64.wrap ((n : Int) - (p : Int)) = ((n - p : Nat) : Int) := by rw [IntKind.wrap_i64]; omega
  go_enter Tryz.func81, Tryz.ntmps81
  repeat go_step
  go_quiet (fail)
  go_wp2_with fail
  go_ret
  refine ⟨?_, _, rfl⟩
  first | rfl | (congr 1; first | exact congrArg _ hw | (simp; omega))
end Go.Proofs.Qxb6500787aGreat
