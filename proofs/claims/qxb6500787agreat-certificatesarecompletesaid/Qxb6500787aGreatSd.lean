
import Derived.Test.Qxb6500787aGreatSc
import Derived.StillTailTactics
import Derived.Deep.QuietTactic
import Derived.BigQuiet
import Derived.Deep.RegionHeld
import Derived.Deep.CutRange
import Derived.Laws.ResultCell
import Derived.Laws.Rows
import Derived.DeepKeys
import Derived.DataBytes
import Derived.Laws.StructEq
import Derived.Laws.AppendOwn
import Derived.Laws.MakeOwn
import Derived.Lib.AppendStr
set_option linter.unusedSimpArgs false
set_option linter.unusedVariables false
namespace Go.Proofs.Qxb6500787aGreat
open Go.RowKit Go.Blk
attribute [local go_sem ↓] execOp_load execOp_store execOp_alloc
attribute [local go_sem] Tryz.ld26 Tryz.st26 Tryz.ld27 Tryz.st27 Tryz.ld28 Tryz.st28 Tryz.ld3 Tryz.st3 Tryz.ld29 Tryz.st29 Tryz.ld4 Tryz.st4 Tryz.ld50 Tryz.st50 Tryz.ld68 Tryz.st68 Tryz.ld9 Tryz.st9 Tryz.ld2 Tryz.st2 Tryz.ld5 Tryz.st5 Tryz.ld12 Tryz.st12 Tryz.ld21 Tryz.st21 Tryz.ld22 Tryz.st22 Tryz.ld24 Tryz.st24 Tryz.ld32 Tryz.st32 Tryz.ld40 Tryz.st40 Tryz.ld44 Tryz.st44 Tryz.ld49 Tryz.st49 Tryz.ld58 Tryz.st58 Tryz.ld97 Tryz.st97 Tryz.ld101 Tryz.st101 Tryz.ld116 Tryz.st116 Tryz.ld121 Tryz.st121 Tryz.ld135 Tryz.st135 Tryz.ld136 Tryz.st136 Tryz.ld138 Tryz.st138 Tryz.ld139 Tryz.st139 Tryz.ld142 Tryz.st142 Tryz.ld143 Tryz.st143 Tryz.ld146 Tryz.st146 Tryz.ld148 Tryz.st148 Tryz.ld154 Tryz.st154 Tryz.ld159 Tryz.st159 Tryz.ld173 Tryz.st173 Tryz.ld183 Tryz.st183 Tryz.ld184 Tryz.st184 Tryz.ld187 Tryz.st187 Tryz.ld192 Tryz.st192 Tryz.ld195 Tryz.st195 Tryz.ld217 Tryz.st217 Tryz.ld222 Tryz.st222 Tryz.ld241 Tryz.st241 Tryz.ld248 Tryz.st248 Tryz.ld268 Tryz.st268 Tryz.ld272 Tryz.st272 Tryz.ld129 Tryz.st129 Tryz.ld31 Tryz.st31 Tryz.ld52 Tryz.st52 Tryz.ld70 Tryz.st70 Tryz.ld74 Tryz.st74 Tryz.ld93 Tryz.st93 Tryz.al129 Tryz.al31 Tryz.al52 Tryz.al70 Tryz.al74 Tryz.al93
attribute [local go_sem] Request.length_enc Request.ok_enc Request.all_get Request.all_set Request.kind_get Request.kind_set Request.blob_get Request.blob_set Request.items_get Request.items_set Request.pred_get Request.pred_set Request.slots_get Request.slots_set Item.length_enc Item.ok_enc Item.all_get Item.all_set Item.del_get Item.del_set Item.pred_get Item.pred_set Item.args_get Item.args_set GOp.length_enc GOp.ok_enc GOp.all_get GOp.all_set GOp.kind_get GOp.kind_set GOp.raw_get GOp.raw_set Reader.length_enc Reader.ok_enc Reader.all_get Reader.all_set Reader.buf_get Reader.buf_set Reader.at__get Reader.at__set Slot.length_enc Slot.ok_enc Slot.all_get Slot.all_set Slot.bound_get Slot.bound_set Slot.name_get Slot.name_set
attribute [local go_sem] size_put size_ext blk_put free_put blk_alloc free_alloc blk_drew free_drew blk_ext free_ext lookOr_some putOr_some segAt_some cellAt_some storeIn_some put_put put_alloc_new length_arr ok_arr_u8 ok_arr_u32 ok_arr_u64 ok_arr_i64 ok_arr_sl cellsV_agg cellsV_int cellsV_bool cellsV_string cellsV_pointer cellsV_slice cellsV_sl ok_int ok_bool ok_string ok_pointer ok_slice ok_sl toList_arr seg_arr set_arr nth_splice nth_splice0 seg_splice seg_splice0 splice_splice splice_splice0 length_splice_if
attribute [local go_sem ↓] execOp_box
attribute [local go_sem] box_run nth_arr_u8 put_arr_u8 blk_drewN free_drewN put_drewN blk_raw free_raw
attribute [local go_sem] rd_len rd0 rd1 rd_set1 rd_put rd_ok it_len it0 it1 it2 it_set0 it_set2 it_all it_put it_put2 it_ok build52z build52p bslice28 rq_len rq0 rq1 rq2 rq3 rq4 rq_all rq_ok rq_set1 rq_set2 rq_set3 rq_set4 rq_put rq_put2 build31z build31k build74
attribute [local go_sem ↓] execOp_slice execOp_convert execOp_build execOp_bslice
set_option maxRecDepth 20000 in
theorem header_nil (W : World) (a : Option Addr) (c : Nat) : Calls Tryz.prog 94 #[.slice a 0 c] W fun e W' => e = .returned (.tuple #[.int .i64 0, .int .i64 1]) ∧ ∃ k, W' = W.drewN k := by
  go_enter Tryz.func94, Tryz.ntmps94
  go_wp2_with fail
  go_ret2
  exact ⟨rfl, 0, rfl⟩
set_option maxRecDepth 20000 in
theorem decode_nil (W : World) (a : Option Addr) (c : Nat) : Calls Tryz.prog 49 #[.slice a 0 c] W (DecPost W (decF [])) := by
  go_enter Tryz.func49, Tryz.ntmps49
  go_upto_region 1 with fail
  refine wp_world (fun W0 => blk W0 W.heap.size = some (reqE 0 none 0 0 none 0 0 0 none 0 0) ∧ free W0 W.heap.size = true ∧ W0.heap.size = W.heap.size + 1 ∧ Hid (W.Extends W0)) ⟨?_, ?_, ?_, extends_alloc (ext_Ext (Ext.refl _)) _⟩ ?_
  · rw [blk_alloc, if_pos rfl]; rfl
  · rw [free_alloc, if_pos rfl]
  · rw [World.size_alloc]
  rintro W0 ⟨h2, hf2, hsz0, HX0⟩
  obtain ⟨b2, hb2⟩ : ∃ b2, b2 = W.heap.size := ⟨_, rfl⟩
  rw [← hb2] at h2 hf2 ⊢
  have hW2 : W.heap.size ≤ b2 := by omega
  have hb2s : b2 < W0.heap.size := by omega
  have HF0 : ∀ V, Hid (W.Extends V → ∀ q : Int, DecPost W (q, Rq.zero) (.returned (.tuple #[.agg (reqE 0 none 0 0 none 0 0 0 none 0 0).toArray, .int .i64 q])) V) := fun V he q => ⟨0, none, 0, 0, none, 0, 0, 0, none, 0, 0, rfl, ReqOk.zero _ _, he⟩
  have HQ : Hid (decF [] = (1, Rq.zero)) := rfl
  clear hb2 hsz0
  go_wp2_with fail
  refine (header_nil W0 a c).mono ?_
  rintro e W1 ⟨rfl, k0, rfl⟩
  dsimp only
  go_wp2_with fail
  refine ret_cell_tmp (C := reqE 0 none 0 0 none 0 0 0 none 0 0) rfl rfl rfl ?_ (by kernel_rfl) (by rw [rq_len]; kernel_rfl) rfl (by rw [HQ.out]; exact (HF0 _).out (by first | exact ext_put_new (HX0.out) hW2 _ | exact extends_drewN (ext_put_new (HX0.out) hW2 _) _ | exact ext_put_new (extends_drewN HX0.out _) hW2 _) 1)
  first | (rw [blk_put, if_pos rfl, h2]; rfl) | (rw [blk_put, if_pos rfl, blk_drewN, h2]; rfl) | (rw [blk_drewN, blk_put, if_pos rfl, h2]; rfl)
set_option maxRecDepth 20000 in
theorem mdecode_nil (W : World) (a : Option Addr) (c : Nat) : Calls Tryz.prog 19 #[.slice a 0 c] W (DecPost W (decF [])) := by
  go_enter Tryz.func19, Tryz.ntmps19
  go_upto_region 1 with fail
  refine wp_world (fun W0 => blk W0 W.heap.size = some (reqE 0 none 0 0 none 0 0 0 none 0 0) ∧ free W0 W.heap.size = true ∧ W0.heap.size = W.heap.size + 1 ∧ Hid (W.Extends W0)) ⟨?_, ?_, ?_, extends_alloc (ext_Ext (Ext.refl _)) _⟩ ?_
  · rw [blk_alloc, if_pos rfl]; rfl
  · rw [free_alloc, if_pos rfl]
  · rw [World.size_alloc]
  rintro W0 ⟨h2, hf2, hsz0, HX0⟩
  obtain ⟨b2, hb2⟩ : ∃ b2, b2 = W.heap.size := ⟨_, rfl⟩
  rw [← hb2] at h2 hf2 ⊢
  have hW2 : W.heap.size ≤ b2 := by omega
  have hb2s : b2 < W0.heap.size := by omega
  have HF0 : ∀ V, Hid (W.Extends V → ∀ q : Int, DecPost W (q, Rq.zero) (.returned (.tuple #[.agg (reqE 0 none 0 0 none 0 0 0 none 0 0).toArray, .int .i64 q])) V) := fun V he q => ⟨0, none, 0, 0, none, 0, 0, 0, none, 0, 0, rfl, ReqOk.zero _ _, he⟩
  have HQ : Hid (decF [] = (1, Rq.zero)) := rfl
  clear hb2 hsz0
  go_wp2_with fail
  refine ret_cell_tmp (C := reqE 0 none 0 0 none 0 0 0 none 0 0) rfl rfl rfl ?_ (by kernel_rfl) (by rw [rq_len]; kernel_rfl) rfl (by rw [HQ.out]; exact (HF0 _).out (by first | exact ext_put_new (HX0.out) hW2 _ | exact extends_drewN (ext_put_new (HX0.out) hW2 _) _ | exact ext_put_new (extends_drewN HX0.out _) hW2 _) 1)
  first | (rw [blk_put, if_pos rfl, h2]; rfl) | (rw [blk_put, if_pos rfl, blk_drewN, h2]; rfl) | (rw [blk_drewN, blk_put, if_pos rfl, h2]; rfl)
set_option maxRecDepth 100000 in
theorem frame70 (f : Nat → Value) : frameN 70 f = #[f 0, f 1, f 2, f 3, f 4, f 5, f 6, f 7, f 8, f 9, f 10, f 11, f 12, f 13, f 14, f 15, f 16, f 17, f 18, f 19, f 20, f 21, f 22, f 23, f 24, f 25, f 26, f 27, f 28, f 29, f 30, f 31, f 32, f 33, f 34, f 35, f 36, f 37, f 38, f 39, f 40, f 41, f 42, f 43, f 44, f 45, f 46, f 47, f 48, f 49, f 50, f 51, f 52, f 53, f 54, f 55, f 56, f 57, f 58, f 59, f 60, f 61, f 62, f 63, f 64, f 65, f 66, f 67, f 68, f 69] := by kernel_rfl
def dcI (W1 : World) (A : Option Addr) (N Cp : Nat) (f : Nat → Value) (W : World) : Prop := f 3 = .slice A N Cp ∧ ∃ i : Nat, i ≤ N ∧ f 4 = .int .i64 (i : Nat) ∧ Hid (W1.Extends W)
def Dec2 (W : World) (s : Sl) (xs : List UInt8) : Prop := (s.len = 0 ∧ xs = []) ∨ (Bs W s.a s.len xs ∧ s.len ≤ s.cap ∧ s.cap ≤ 9223372036854775807 ∧ s.len ≤ 65536)
theorem Dec2.grow {W W' : World} {s : Sl} {xs : List UInt8} (h : Dec2 W s xs) (he : W.Extends W') : Dec2 W' s xs := by
  rcases h with h | ⟨h1, h2⟩
  · exact .inl h
  · exact .inr ⟨h1.grow he, h2⟩
theorem dec_both (f : Nat) (hf : f = 49 ∨ f = 19) (W : World) (s : Sl) (xs : List UInt8) (h : Dec2 W s xs) : Calls Tryz.prog f #[.slice s.a s.len s.cap] W (DecPost W (decF xs)) := by
  rcases h with ⟨h1, rfl⟩ | ⟨h1, h2, h3, h4⟩
  · rw [h1]
    rcases hf with rfl | rfl
    · exact decode_nil W s.a s.cap
    · exact mdecode_nil W s.a s.cap
  · rcases hf with rfl | rfl
    · exact decode_any W s.a s.len s.cap h4 h2 h3 xs h1
    · exact mdecode_any W s.a s.len s.cap h4 h2 h3 xs h1
theorem dec2_of {W : World} {s : Sl} {xs : List UInt8} (h : BytesIn W s xs) (hl : s.len ≤ 65536) : Dec2 W s xs := by
  obtain ⟨h1, h2, h3, h4⟩ := h
  by_cases h0 : s.len = 0
  · exact .inl ⟨h0, List.eq_nil_of_length_eq_zero (by omega)⟩
  · obtain ⟨b, o, C, e1, e2, e3, e4⟩ := h4 h0
    exact .inr ⟨⟨h1, fun _ => ⟨b, o, C, e1, e2, e3, e4⟩, .inr ⟨b, o, e1⟩⟩, h2, by simpa only [maxLen] using h3, hl⟩
theorem sends_at {w W : World} {len : Nat} {g : Nat → GOp} {a : Option Addr} {n c : Nat} {L : List Sl} (h : SendsAt w W len g a n c L) {i : Nat} (hi : i < n) : ∃ s b C, a = some ⟨b, 0, none⟩ ∧ blk W b = some C ∧ i + 1 ≤ C.length ∧ nth C i = some (.slice s.a s.len s.cap) ∧ ∃ j, j < len ∧ s = (g j).raw := by
  obtain ⟨h1, h2, h3, h4, h5⟩ := h
  obtain ⟨s, b, C, hx, e1, e2, e3, e4⟩ := (rw_own encR_len h1).1.at hi
  rw [Nat.mul_one] at e4
  exact ⟨s, b, C, e1, e2, by omega, nth_in (j := 0) e4 (show nth (encR s) 0 = some _ from rfl) (by omega), h4 s (List.mem_of_getElem? hx)⟩
theorem DecPost.len {W W' : World} {B : Nat} {k : Int} {ba : Option Addr} {bn bc : Nat} {ia : Option Addr} {iN ic : Nat} {p : Int} {sa : Option Addr} {sn sc : Nat} {q : Rq} (h : ReqOk W B k ba bn bc ia iN ic p sa sn sc q) : k = q.kind ∧ bn = q.blob.length ∧ iN = q.items.length ∧ p = q.pred ∧ sn = q.slots.length := by
  obtain ⟨hk, hb, ⟨K, hK, hI⟩, hp, hs⟩ := h
  exact ⟨hk, (bs_own hb).1.1.symm, by rw [← hI.1]; exact (rw_own encD_len hK).1.1.symm, hp, (rw_own encL_len hs).1.1.symm⟩
end Go.Proofs.Qxb6500787aGreat
