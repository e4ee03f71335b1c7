
import Derived.Test.Qxb6500787aGreatSa
import Derived.StillTailTactics
import Derived.Deep.QuietTactic
import Derived.BigQuiet
import Derived.Deep.RegionHeld
import Derived.Deep.CutRange
import Derived.Laws.ResultCell
import Derived.Laws.Rows
import Derived.DeepKeys
import Derived.DataBytes
import Derived.Laws.StructEq
import Derived.Laws.AppendOwn
import Derived.Laws.MakeOwn
import Derived.Lib.AppendStr
set_option linter.unusedSimpArgs false
set_option linter.unusedVariables false
namespace Go.Proofs.Qxb6500787aGreat
open Go.RowKit Go.Blk
attribute [local go_sem ↓] execOp_load execOp_store execOp_alloc
attribute [local go_sem] Tryz.ld26 Tryz.st26 Tryz.ld27 Tryz.st27 Tryz.ld28 Tryz.st28 Tryz.ld3 Tryz.st3 Tryz.ld29 Tryz.st29 Tryz.ld4 Tryz.st4 Tryz.ld50 Tryz.st50 Tryz.ld68 Tryz.st68 Tryz.ld9 Tryz.st9 Tryz.ld2 Tryz.st2 Tryz.ld5 Tryz.st5 Tryz.ld12 Tryz.st12 Tryz.ld21 Tryz.st21 Tryz.ld22 Tryz.st22 Tryz.ld24 Tryz.st24 Tryz.ld32 Tryz.st32 Tryz.ld40 Tryz.st40 Tryz.ld44 Tryz.st44 Tryz.ld49 Tryz.st49 Tryz.ld58 Tryz.st58 Tryz.ld97 Tryz.st97 Tryz.ld101 Tryz.st101 Tryz.ld116 Tryz.st116 Tryz.ld121 Tryz.st121 Tryz.ld135 Tryz.st135 Tryz.ld136 Tryz.st136 Tryz.ld138 Tryz.st138 Tryz.ld139 Tryz.st139 Tryz.ld142 Tryz.st142 Tryz.ld143 Tryz.st143 Tryz.ld146 Tryz.st146 Tryz.ld148 Tryz.st148 Tryz.ld154 Tryz.st154 Tryz.ld159 Tryz.st159 Tryz.ld173 Tryz.st173 Tryz.ld183 Tryz.st183 Tryz.ld184 Tryz.st184 Tryz.ld187 Tryz.st187 Tryz.ld192 Tryz.st192 Tryz.ld195 Tryz.st195 Tryz.ld217 Tryz.st217 Tryz.ld222 Tryz.st222 Tryz.ld241 Tryz.st241 Tryz.ld248 Tryz.st248 Tryz.ld268 Tryz.st268 Tryz.ld272 Tryz.st272 Tryz.ld129 Tryz.st129 Tryz.ld31 Tryz.st31 Tryz.ld52 Tryz.st52 Tryz.ld70 Tryz.st70 Tryz.ld74 Tryz.st74 Tryz.ld93 Tryz.st93 Tryz.al129 Tryz.al31 Tryz.al52 Tryz.al70 Tryz.al74 Tryz.al93
attribute [local go_sem] Request.length_enc Request.ok_enc Request.all_get Request.all_set Request.kind_get Request.kind_set Request.blob_get Request.blob_set Request.items_get Request.items_set Request.pred_get Request.pred_set Request.slots_get Request.slots_set Item.length_enc Item.ok_enc Item.all_get Item.all_set Item.del_get Item.del_set Item.pred_get Item.pred_set Item.args_get Item.args_set GOp.length_enc GOp.ok_enc GOp.all_get GOp.all_set GOp.kind_get GOp.kind_set GOp.raw_get GOp.raw_set Reader.length_enc Reader.ok_enc Reader.all_get Reader.all_set Reader.buf_get Reader.buf_set Reader.at__get Reader.at__set Slot.length_enc Slot.ok_enc Slot.all_get Slot.all_set Slot.bound_get Slot.bound_set Slot.name_get Slot.name_set
attribute [local go_sem] size_put size_ext blk_put free_put blk_alloc free_alloc blk_drew free_drew blk_ext free_ext lookOr_some putOr_some segAt_some cellAt_some storeIn_some put_put put_alloc_new length_arr ok_arr_u8 ok_arr_u32 ok_arr_u64 ok_arr_i64 ok_arr_sl cellsV_agg cellsV_int cellsV_bool cellsV_string cellsV_pointer cellsV_slice cellsV_sl ok_int ok_bool ok_string ok_pointer ok_slice ok_sl toList_arr seg_arr set_arr nth_splice nth_splice0 seg_splice seg_splice0 splice_splice splice_splice0 length_splice_if
attribute [local go_sem ↓] execOp_box
attribute [local go_sem] box_run nth_arr_u8 put_arr_u8 blk_drewN free_drewN put_drewN blk_raw free_raw
set_option maxRecDepth 100000 in
theorem frame110 (f : Nat → Value) : frameN 110 f = #[f 0, f 1, f 2, f 3, f 4, f 5, f 6, f 7, f 8, f 9, f 10, f 11, f 12, f 13, f 14, f 15, f 16, f 17, f 18, f 19, f 20, f 21, f 22, f 23, f 24, f 25, f 26, f 27, f 28, f 29, f 30, f 31, f 32, f 33, f 34, f 35, f 36, f 37, f 38, f 39, f 40, f 41, f 42, f 43, f 44, f 45, f 46, f 47, f 48, f 49, f 50, f 51, f 52, f 53, f 54, f 55, f 56, f 57, f 58, f 59, f 60, f 61, f 62, f 63, f 64, f 65, f 66, f 67, f 68, f 69, f 70, f 71, f 72, f 73, f 74, f 75, f 76, f 77, f 78, f 79, f 80, f 81, f 82, f 83, f 84, f 85, f 86, f 87, f 88, f 89, f 90, f 91, f 92, f 93, f 94, f 95, f 96, f 97, f 98, f 99, f 100, f 101, f 102, f 103, f 104, f 105, f 106, f 107, f 108, f 109] := by kernel_rfl
def rtI (w : World) (b1 : Nat) (D : List Value) (N sl : Nat) (f : Nat → Value) (W : World) : Prop := f 1 = .pointer (some ⟨b1, 0, none⟩) ∧ ∃ (i : Nat) (s : ByteArray), i ≤ N ∧ f sl = .int .i64 (i : Nat) ∧ f 3 = .string s ∧ 1 ≤ s.size ∧ s.size ≤ 100 + 2100 * i ∧ Hid (blk W b1 = some D ∧ w.Extends W)
theorem size_cat1 {a b : ByteArray} (ha : 1 ≤ a.size) : 1 ≤ (a ++ b).size := by rw [ByteArray.size_append]; omega
attribute [local go_sem ↓] execOp_slice execOp_convert execOp_add9 execOp_index execOp_make execOp_bslice
attribute [local go_sem] add_run it_len it0 it1 it2 it_set0 it_set2 it_all it_put it_put2 it_ok rq_len rq0 rq1 rq2 rq3 rq4 rq_all rq_ok so_len so_all so_ok
end Go.Proofs.Qxb6500787aGreat
