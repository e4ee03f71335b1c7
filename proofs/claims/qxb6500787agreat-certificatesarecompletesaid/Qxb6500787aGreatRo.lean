
import Derived.Test.Qxb6500787aGreatRn
import Derived.StillTailTactics
import Derived.Deep.QuietTactic
import Derived.BigQuiet
import Derived.Deep.RegionHeld
import Derived.Deep.CutRange
import Derived.Laws.ResultCell
import Derived.Laws.Rows
import Derived.DeepKeys
import Derived.DataBytes
import Derived.Laws.StructEq
import Derived.Laws.AppendOwn
import Derived.Laws.MakeOwn
set_option linter.unusedSimpArgs false
set_option linter.unusedVariables false
namespace Go.Proofs.Qxb6500787aGreat
open Go.RowKit Go.Blk
attribute [local go_sem ↓] execOp_load execOp_store execOp_alloc
attribute [local go_sem] Tryz.ld26 Tryz.st26 Tryz.ld27 Tryz.st27 Tryz.ld28 Tryz.st28 Tryz.ld3 Tryz.st3 Tryz.ld29 Tryz.st29 Tryz.ld4 Tryz.st4 Tryz.ld50 Tryz.st50 Tryz.ld68 Tryz.st68 Tryz.ld9 Tryz.st9 Tryz.ld2 Tryz.st2 Tryz.ld5 Tryz.st5 Tryz.ld12 Tryz.st12 Tryz.ld21 Tryz.st21 Tryz.ld22 Tryz.st22 Tryz.ld24 Tryz.st24 Tryz.ld32 Tryz.st32 Tryz.ld40 Tryz.st40 Tryz.ld44 Tryz.st44 Tryz.ld49 Tryz.st49 Tryz.ld58 Tryz.st58 Tryz.ld97 Tryz.st97 Tryz.ld101 Tryz.st101 Tryz.ld116 Tryz.st116 Tryz.ld121 Tryz.st121 Tryz.ld135 Tryz.st135 Tryz.ld136 Tryz.st136 Tryz.ld138 Tryz.st138 Tryz.ld139 Tryz.st139 Tryz.ld142 Tryz.st142 Tryz.ld143 Tryz.st143 Tryz.ld146 Tryz.st146 Tryz.ld148 Tryz.st148 Tryz.ld154 Tryz.st154 Tryz.ld159 Tryz.st159 Tryz.ld173 Tryz.st173 Tryz.ld183 Tryz.st183 Tryz.ld184 Tryz.st184 Tryz.ld187 Tryz.st187 Tryz.ld192 Tryz.st192 Tryz.ld195 Tryz.st195 Tryz.ld217 Tryz.st217 Tryz.ld222 Tryz.st222 Tryz.ld241 Tryz.st241 Tryz.ld248 Tryz.st248 Tryz.ld268 Tryz.st268 Tryz.ld272 Tryz.st272 Tryz.ld129 Tryz.st129 Tryz.ld31 Tryz.st31 Tryz.ld52 Tryz.st52 Tryz.ld70 Tryz.st70 Tryz.ld74 Tryz.st74 Tryz.ld93 Tryz.st93 Tryz.al129 Tryz.al31 Tryz.al52 Tryz.al70 Tryz.al74 Tryz.al93
attribute [local go_sem] Request.length_enc Request.ok_enc Request.all_get Request.all_set Request.kind_get Request.kind_set Request.blob_get Request.blob_set Request.items_get Request.items_set Request.pred_get Request.pred_set Request.slots_get Request.slots_set Item.length_enc Item.ok_enc Item.all_get Item.all_set Item.del_get Item.del_set Item.pred_get Item.pred_set Item.args_get Item.args_set GOp.length_enc GOp.ok_enc GOp.all_get GOp.all_set GOp.kind_get GOp.kind_set GOp.raw_get GOp.raw_set Reader.length_enc Reader.ok_enc Reader.all_get Reader.all_set Reader.buf_get Reader.buf_set Reader.at__get Reader.at__set Slot.length_enc Slot.ok_enc Slot.all_get Slot.all_set Slot.bound_get Slot.bound_set Slot.name_get Slot.name_set
attribute [local go_sem] size_put size_ext blk_put free_put blk_alloc free_alloc blk_drew free_drew blk_ext free_ext lookOr_some putOr_some segAt_some cellAt_some storeIn_some put_put put_alloc_new length_arr ok_arr_u8 ok_arr_u32 ok_arr_u64 ok_arr_i64 ok_arr_sl cellsV_agg cellsV_int cellsV_bool cellsV_string cellsV_pointer cellsV_slice cellsV_sl ok_int ok_bool ok_string ok_pointer ok_slice ok_sl toList_arr seg_arr set_arr nth_splice nth_splice0 seg_splice seg_splice0 splice_splice splice_splice0 length_splice_if
attribute [local go_sem ↓] execOp_box
attribute [local go_sem] box_run nth_arr_u8 put_arr_u8 blk_drewN free_drewN put_drewN blk_raw free_raw
attribute [local go_sem] it_len it0 it1 it2 it_set0 it_set2 it_all it_put it_put2 it_ok build52z build52p bslice28 rq_len rq0 rq1 rq2 rq3 rq4 rq_all rq_ok rq_set1 rq_set2 rq_set3 rq_set4 rq_put rq_put2 build31z build31k
attribute [local go_sem ↓] execOp_slice execOp_convert execOp_build execOp_bslice
set_option maxRecDepth 20000 in
set_option maxHeartbeats 4000000 in
theorem mdecode_any (W : World) (a : Option Addr) (n c : Nat) (hn : n ≤ 65536) (hnc : n ≤ c) (hc : c ≤ 9223372036854775807) (xs : List UInt8) (hX : Bs W a n xs) : Calls Tryz.prog 19 #[.slice a n c] W (DecPost W (decF xs)) := by
  have HX : Hid (Bs W a n xs) := hX
  have hxl := hX.1
  clear hX
  go_enter Tryz.func19, Tryz.ntmps19
  go_upto_region 1 with fail
  refine wp_world (fun W0 => blk W0 W.heap.size = some (reqE 0 none 0 0 none 0 0 0 none 0 0) ∧ free W0 W.heap.size = true ∧ W0.heap.size = W.heap.size + 1 ∧ Hid (W.Extends W0)) ⟨?_, ?_, ?_, extends_alloc (ext_Ext (Ext.refl _)) _⟩ ?_
  · rw [blk_alloc, if_pos rfl]; rfl
  · rw [free_alloc, if_pos rfl]
  · rw [World.size_alloc]
  rintro W0 ⟨h2, hf2, hsz0, HX0⟩
  obtain ⟨b2, hb2⟩ : ∃ b2, b2 = W.heap.size := ⟨_, rfl⟩
  rw [← hb2] at h2 hf2 ⊢
  have hW2 : W.heap.size ≤ b2 := by omega
  have hb2s : b2 < W0.heap.size := by omega
  have HF0 : ∀ V, Hid (W.Extends V → ∀ q : Int, DecPost W (q, Rq.zero) (.returned (.tuple #[.agg (reqE 0 none 0 0 none 0 0 0 none 0 0).toArray, .int .i64 q])) V) := fun V he q => ⟨0, none, 0, 0, none, 0, 0, 0, none, 0, 0, rfl, ReqOk.zero _ _, he⟩
  clear hb2 hsz0
  by_cases h4 : n < 4
  · have HQ : Hid (decF xs = (1, Rq.zero)) := by
      show _ = _
      unfold decF
      rw [hdrF_short (by omega)]; rfl
    have n1 : (n : Int) < 4 := by omega
    clear hxl
    go_wp2_with fail
    refine ret_cell_tmp (C := reqE 0 none 0 0 none 0 0 0 none 0 0) rfl rfl rfl ?_ (by kernel_rfl) (by rw [rq_len]; kernel_rfl) rfl (by rw [HQ.out]; exact (HF0 _).out (by first | exact ext_put_new (HX0.out) hW2 _ | exact extends_drewN (ext_put_new (HX0.out) hW2 _) _ | exact ext_put_new (extends_drewN HX0.out _) hW2 _) 1)
    first | (rw [blk_put, if_pos rfl, h2]; rfl) | (rw [blk_put, if_pos rfl, blk_drewN, h2]; rfl) | (rw [blk_drewN, blk_put, if_pos rfl, h2]; rfl)
  obtain ⟨x0, x1, x2, x3, r, hxs⟩ := four (xs := xs) (by omega)
  have HXS : Hid (xs = x0 :: x1 :: x2 :: x3 :: r) := hxs
  have HXW : Hid (Bs W0 a n (x0 :: x1 :: x2 :: x3 :: r)) := by
    rw [← hxs]; exact HX.out.grow HX0.out
  obtain ⟨b, o, C, rfl, hC, hCl, v0⟩ := HXW.out.nat (i := 0) (x := x0) rfl
  obtain ⟨_, _, _, e1, e2, _, v1⟩ := HXW.out.nat (i := 1) (x := x1) rfl
  injection e1 with e1; injection e1 with e1 e3; subst e1 e3
  obtain rfl := Option.some.inj (e2.symm.trans hC)
  obtain ⟨_, _, _, e1, e4, _, v2⟩ := HXW.out.nat (i := 2) (x := x2) rfl
  injection e1 with e1; injection e1 with e1 e3; subst e1 e3
  obtain rfl := Option.some.inj (e4.symm.trans hC)
  obtain ⟨_, _, _, e1, e5, _, v3⟩ := HXW.out.nat (i := 3) (x := x3) rfl
  injection e1 with e1; injection e1 with e1 e3; subst e1 e3
  obtain rfl := Option.some.inj (e5.symm.trans hC)
  clear e2 e4 e5
  have hr : r.length = n - 4 := by rw [hxs] at hxl; simp at hxl; omega
  obtain ⟨y0, hy0⟩ : ∃ y, y = x0.toNat := ⟨_, rfl⟩
  obtain ⟨y1, hy1⟩ : ∃ y, y = x1.toNat := ⟨_, rfl⟩
  obtain ⟨y2, hy2⟩ : ∃ y, y = x2.toNat := ⟨_, rfl⟩
  obtain ⟨y3, hy3⟩ : ∃ y, y = x3.toNat := ⟨_, rfl⟩
  have l0 : y0 < 256 := by rw [hy0]; exact x0.toNat_lt
  have l1 : y1 < 256 := by rw [hy1]; exact x1.toNat_lt
  have l2 : y2 < 256 := by rw [hy2]; exact x2.toNat_lt
  have l3 : y3 < 256 := by rw [hy3]; exact x3.toNat_lt
  rw [← hy0, Nat.add_zero] at v0
  rw [← hy1] at v1
  rw [← hy2] at v2
  rw [← hy3] at v3
  have HH : Hid (hdrF xs = if y0 ≠ 1 then (2, 0) else if y1 = 0 ∨ 8 ≤ y1 then (3, 0) else if y2 * 256 + y3 ≠ n - 4 then (4, 0) else (0, (y1 : Int))) := by
    show _ = _
    rw [hxs, hdrF_cons, ← hy0, ← hy1, ← hy2, ← hy3, hr]
  have hbW : b < W.heap.size := by
    obtain ⟨b', o', C', e1, e2, _⟩ := HX.out.2.1 (by omega)
    injection e1 with e1; injection e1 with e1
    rw [e1]; exact blk_lt e2
  have nb2 : ¬ b = b2 := by omega
  have n4 : ¬ (n : Int) < 4 := by omega
  have q1 : (0 : Int) < (n : Int) := by omega
  have q2 : (1 : Int) < (n : Int) := by omega
  have q3 : (2 : Int) < (n : Int) := by omega
  have q4 : (3 : Int) < (n : Int) := by omega
  have HXL : Hid ((xs.drop 4).length = n - 4) := by show _ = _; rw [List.length_drop, hxl]
  clear hxs hy0 hy1 hy2 hy3 hr hxl
  by_cases c0 : ¬ (y0 : Int) = 1
  · have HQ : Hid (decF xs = (2, Rq.zero)) := by
      show _ = _
      have e : hdrF xs = (2, 0) := by rw [HH.out, if_pos (by omega)]
      unfold decF
      rw [e]; rfl
    have c0' : ((y0 : Int) == 1) = false := by simp [c0]
    go_wp2_with fail
    refine ret_cell_tmp (C := reqE 0 none 0 0 none 0 0 0 none 0 0) rfl rfl rfl ?_ (by kernel_rfl) (by rw [rq_len]; kernel_rfl) rfl (by rw [HQ.out]; exact (HF0 _).out (by first | exact ext_put_new (HX0.out) hW2 _ | exact extends_drewN (ext_put_new (HX0.out) hW2 _) _ | exact ext_put_new (extends_drewN HX0.out _) hW2 _) 2)
    first | (rw [blk_put, if_pos rfl, h2]; rfl) | (rw [blk_put, if_pos rfl, blk_drewN, h2]; rfl) | (rw [blk_drewN, blk_put, if_pos rfl, h2]; rfl)
  have c0 := Decidable.not_not.1 c0
  have c0' : y0 = 1 := by omega
  by_cases c1 : y1 = 0 ∨ 8 ≤ y1
  · have HQ : Hid (decF xs = (3, Rq.zero)) := by
      show _ = _
      have e : hdrF xs = (3, 0) := by rw [HH.out, if_neg (by omega), if_pos c1]
      unfold decF
      rw [e]; rfl
    have w1 : IntKind.i64.wrap (y1 : Int) = (y1 : Int) := by rw [IntKind.wrap_i64]; omega
    subst c0'
    by_cases c1a : y1 = 0
    · subst c1a
      go_wp2_with fail
      refine ret_cell_tmp (C := reqE 0 none 0 0 none 0 0 0 none 0 0) rfl rfl rfl ?_ (by kernel_rfl) (by rw [rq_len]; kernel_rfl) rfl (by rw [HQ.out]; exact (HF0 _).out (by first | exact ext_put_new (HX0.out) hW2 _ | exact extends_drewN (ext_put_new (HX0.out) hW2 _) _ | exact ext_put_new (extends_drewN HX0.out _) hW2 _) 3)
      first | (rw [blk_put, if_pos rfl, h2]; rfl) | (rw [blk_put, if_pos rfl, blk_drewN, h2]; rfl) | (rw [blk_drewN, blk_put, if_pos rfl, h2]; rfl)
    · have c1b : (8 : Int) ≤ (y1 : Int) := by omega
      have c1c : ¬ ((y1 : Int) = 0) := by omega
      have c1d : ((y1 : Int) == 0) = false := by simp; omega
      go_wp2_with fail
      refine ret_cell_tmp (C := reqE 0 none 0 0 none 0 0 0 none 0 0) rfl rfl rfl ?_ (by kernel_rfl) (by rw [rq_len]; kernel_rfl) rfl (by rw [HQ.out]; exact (HF0 _).out (by first | exact ext_put_new (HX0.out) hW2 _ | exact extends_drewN (ext_put_new (HX0.out) hW2 _) _ | exact ext_put_new (extends_drewN HX0.out _) hW2 _) 3)
      first | (rw [blk_put, if_pos rfl, h2]; rfl) | (rw [blk_put, if_pos rfl, blk_drewN, h2]; rfl) | (rw [blk_drewN, blk_put, if_pos rfl, h2]; rfl)
  have c1c : ¬ ((y1 : Int) = 0) := by omega
  have c1d : ((y1 : Int) == 0) = false := by simp; omega
  have c1b : ¬ (8 : Int) ≤ (y1 : Int) := by omega
  have w1 : IntKind.i64.wrap (y1 : Int) = (y1 : Int) := by rw [IntKind.wrap_i64]; omega
  have w2 : IntKind.i64.wrap (y2 : Int) = (y2 : Int) := by rw [IntKind.wrap_i64]; omega
  have w3 : IntKind.i64.wrap (y3 : Int) = (y3 : Int) := by rw [IntKind.wrap_i64]; omega
  have w4 : IntKind.i64.wrap ((y2 : Int) * 256) = (y2 : Int) * 256 := by rw [IntKind.wrap_i64]; omega
  have w5 : IntKind.i64.wrap ((y2 : Int) * 256 + (y3 : Int)) = (y2 : Int) * 256 + (y3 : Int) := by rw [IntKind.wrap_i64]; omega
  have w6 : IntKind.i64.wrap ((n : Int) - 4) = (n : Int) - 4 := by rw [IntKind.wrap_i64]; omega
  by_cases c2 : ¬ (y2 : Int) * 256 + (y3 : Int) = (n : Int) - 4
  · have HQ : Hid (decF xs = (4, Rq.zero)) := by
      show _ = _
      have e : hdrF xs = (4, 0) := by rw [HH.out, if_neg (by omega), if_neg c1, if_pos (by omega)]
      unfold decF
      rw [e]; rfl
    have c2b : ((y2 : Int) * 256 + (y3 : Int) == (n : Int) - 4) = false := by simp [c2]
    subst c0'
    repeat go_step
    go_quiet (fail)
    go_wp2_with fail
    refine ret_cell_tmp (C := reqE 0 none 0 0 none 0 0 0 none 0 0) rfl rfl rfl ?_ (by kernel_rfl) (by rw [rq_len]; kernel_rfl) rfl (by rw [HQ.out]; exact (HF0 _).out (by first | exact ext_put_new (HX0.out) hW2 _ | exact extends_drewN (ext_put_new (HX0.out) hW2 _) _ | exact ext_put_new (extends_drewN HX0.out _) hW2 _) 4)
    first | (rw [blk_put, if_pos rfl, h2]; rfl) | (rw [blk_put, if_pos rfl, blk_drewN, h2]; rfl) | (rw [blk_drewN, blk_put, if_pos rfl, h2]; rfl)
  have c2 := Decidable.not_not.1 c2
  have HDF : Hid (decF xs = finF (bodyF (y1 : Int) (xs.drop 4))) := by
    show _ = _
    have e : hdrF xs = (0, (y1 : Int)) := by rw [HH.out, if_neg (by omega), if_neg c1, if_neg (by omega)]
    unfold decF
    rw [e]; rfl
  have c2b : ((y2 : Int) * 256 + (y3 : Int) == (n : Int) - 4) = true := by simp [c2]
  have hsl : ∀ V, (sliceOp 31 (.slice (some ⟨b, o, none⟩) n c) (some (.int .i64 4)) none none).run Tryz.prog V = .ok (.value (.slice (cutA (some ⟨b, o, none⟩) 4 c) (n - 4) (c - 4))) V := fun V => Tryz.sl27lo V (some ⟨b, o, none⟩) n c 4 (by omega)
  obtain ⟨A4, hA4⟩ : ∃ A4, A4 = cutA (some ⟨b, o, none⟩) 4 c := ⟨_, rfl⟩
  simp only [← hA4] at hsl
  have HA4 : Hid (Bs W A4 (n - 4) (xs.drop 4)) := by
    have := HX.out.cut (l := 4) (k := n - 4) (cap := c) (by omega) hnc
    rw [← hA4, List.take_of_length_le (by rw [HXL.out]; exact Nat.le_refl _)] at this
    exact this
  subst c0'
  have nb0 : ¬ b2 = W0.heap.size := by omega
  clear hA4
  repeat go_step
  go_quiet (fail)
  go_upto_region 12 with fail
  refine wp_world (fun W2 => blk W2 b2 = some (reqE 0 none 0 0 none 0 0 0 none 0 0) ∧ free W2 b2 = true ∧ blk W2 W0.heap.size = some (reqE (y1 : Int) none 0 0 none 0 0 0 none 0 0) ∧ free W2 W0.heap.size = true ∧ W2.heap.size = W0.heap.size + 1 ∧ Hid (W.Extends W2)) ⟨?_, ?_, ?_, ?_, ?_, ?_⟩ ?_
  · rw [blk_put, if_neg nb0, blk_alloc, if_neg (show ¬ b2 = (W0.drewN _).heap.size from nb0)]; exact h2
  · rw [free_put, free_alloc, if_neg (show ¬ b2 = (W0.drewN _).heap.size from nb0)]; exact hf2
  · rw [blk_put, if_pos rfl, blk_alloc, if_pos (show W0.heap.size = (W0.drewN _).heap.size from rfl)]; rfl
  · rw [free_put, free_alloc, if_pos (show W0.heap.size = (W0.drewN _).heap.size from rfl)]
  · show (put _ _ _).heap.size = _
    rw [size_put, World.size_alloc]; rfl
  · exact ext_put_new (extends_alloc (extends_drewN HX0.out _) _) (by have := HX0.out.size; omega) _
  rintro W2 ⟨g2, gf2, g6, gf6, gsz, HE2⟩
  obtain ⟨b6, hb6⟩ : ∃ b6, b6 = W0.heap.size := ⟨_, rfl⟩
  rw [← hb6] at g6 gf6 gsz ⊢
  have hW6 : W.heap.size ≤ b6 := by have := HX0.out.size; omega
  have e26 : ¬ b2 = b6 := by omega
  obtain ⟨B, hB⟩ : ∃ B, B = W2.heap.size := ⟨_, rfl⟩
  have h2B : b2 < B := by omega
  have h6B : b6 < B := by omega
  have hWB : W.heap.size ≤ B := by omega
  have hBV : B ≤ W2.heap.size := by omega
  clear gsz hB hb6 nb0 h2 hf2 hb2s HX0 hC hsl HXW v0 v1 v2 v3
  have hkk : y1 = 1 ∨ y1 = 7 ∨ y1 = 2 ∨ y1 = 3 ∨ y1 = 5 ∨ y1 = 4 ∨ y1 = 6 := by omega
  clear c1 c1b c1c c1d w1 HH
  rcases hkk with rfl | rfl | rfl | rfl | rfl | rfl | rfl
  · have HDF : Hid (decF xs = finF (bodyF 1 (xs.drop 4))) := HDF.out
    have g6 : blk W2 b6 = some (reqE 1 none 0 0 none 0 0 0 none 0 0) := g6
    obtain ⟨a', n', c', W5, hrun, hrow, hg⟩ := appB B W2 31 (.slice none 0 0) [] (xs.drop 4) A4 (c - 4) (ownsNil _ _ _ _) (by rw [HXL.out]; exact HA4.out.grow HE2.out) hBV (by rw [HXL.out]; simp; omega)
    rw [HXL.out] at hrun
    rw [List.nil_append] at hrow
    have hx5 : W2.Extends W5 := grown_ext (ext_Ext (Ext.refl _)) hg (fun k hk => by simp [Value.ownBlock] at hk)
    have v25 : blk W5 b2 = some (reqE 0 none 0 0 none 0 0 0 none 0 0) := (hx5.blk (blk_lt g2)).trans g2
    have vf25 : free W5 b2 = true := (free_of_heap (hx5.block b2 (blk_lt g2))).trans gf2
    have v65 : blk W5 b6 = some (reqE 1 none 0 0 none 0 0 0 none 0 0) := (hx5.blk (blk_lt g6)).trans g6
    have vf65 : free W5 b6 = true := (free_of_heap (hx5.block b6 (blk_lt g6))).trans gf6
    have HE5 : Hid (W.Extends W5) := HE2.out.trans hx5
    have HRow : Hid (W5.ownsRow B 5 1 (.slice a' n' c') (xs.drop 4).length (bv (xs.drop 4))) := hrow
    clear hrow hg hx5
    go_upto_region 31 with (at_builtin; refine wpList_append_run rfl _ _ 31 rfl _ _ _ _ rfl rfl hrun ?_)
    refine wp_world (fun V => blk V b2 = some (reqE 0 none 0 0 none 0 0 0 none 0 0) ∧ free V b2 = true ∧ blk V b6 = some (reqE 1 a' n' c' none 0 0 0 none 0 0) ∧ Hid (W.Extends V) ∧ Hid (ReqOk V B 1 a' n' c' none 0 0 0 none 0 0 ⟨1, xs.drop 4, [], 0, []⟩)) ⟨?_, ?_, ?_, ?_, ?_⟩ ?_
    · rw [blk_put, if_neg e26]; exact v25
    · rw [free_put]; exact vf25
    · rw [blk_put, if_pos rfl, v65]; rfl
    · exact ext_put_new HE5.out hW6 _
    · exact ReqOk.put (W := W5) ⟨rfl, HRow.out, ⟨[], ownsNil _ _ _ _, ⟨rfl, fun i d it h => by simp at h⟩⟩, rfl, ownsNil _ _ _ _⟩ h6B
    clear v25 vf25 v65 vf65 HE5 HRow hrun g2 gf2 g6 gf6
    rintro V ⟨v2, vf2, v6, HEV, HOk⟩
    have HQ : Hid (decF xs = (0, ⟨1, xs.drop 4, [], 0, []⟩)) := by
      show _ = _
      rw [HDF.out, body1 _ (by omega), fin_ok rfl rfl]
    have HF : Hid (DecPost W (0, ⟨1, xs.drop 4, [], 0, []⟩) (.returned (.tuple #[.agg (reqE 1 a' n' c' none 0 0 0 none 0 0).toArray, .int .i64 0])) (put V b2 (reqE 1 a' n' c' none 0 0 0 none 0 0))) := ⟨_, _, _, _, _, _, _, _, _, _, _, rfl, (HOk.out.put h2B).base hWB, ext_put_new HEV.out hW2 _⟩
    go_wp2_with fail
    refine ret_cell_tmp (C := reqE 1 a' n' c' none 0 0 0 none 0 0) rfl rfl rfl ?_ (by kernel_rfl) (by rw [rq_len]; kernel_rfl) rfl (by rw [HQ.out]; exact HF.out)
    rw [blk_put, if_pos rfl, v2]; rfl
  · have HDF : Hid (decF xs = finF (bodyF 7 (xs.drop 4))) := HDF.out
    have g6 : blk W2 b6 = some (reqE 7 none 0 0 none 0 0 0 none 0 0) := g6
    obtain ⟨a', n', c', W5, hrun, hrow, hg⟩ := appB B W2 31 (.slice none 0 0) [] (xs.drop 4) A4 (c - 4) (ownsNil _ _ _ _) (by rw [HXL.out]; exact HA4.out.grow HE2.out) hBV (by rw [HXL.out]; simp; omega)
    rw [HXL.out] at hrun
    rw [List.nil_append] at hrow
    have hx5 : W2.Extends W5 := grown_ext (ext_Ext (Ext.refl _)) hg (fun k hk => by simp [Value.ownBlock] at hk)
    have v25 : blk W5 b2 = some (reqE 0 none 0 0 none 0 0 0 none 0 0) := (hx5.blk (blk_lt g2)).trans g2
    have vf25 : free W5 b2 = true := (free_of_heap (hx5.block b2 (blk_lt g2))).trans gf2
    have v65 : blk W5 b6 = some (reqE 7 none 0 0 none 0 0 0 none 0 0) := (hx5.blk (blk_lt g6)).trans g6
    have vf65 : free W5 b6 = true := (free_of_heap (hx5.block b6 (blk_lt g6))).trans gf6
    have HE5 : Hid (W.Extends W5) := HE2.out.trans hx5
    have HRow : Hid (W5.ownsRow B 5 1 (.slice a' n' c') (xs.drop 4).length (bv (xs.drop 4))) := hrow
    clear hrow hg hx5
    go_upto_region 31 with (at_builtin; refine wpList_append_run rfl _ _ 31 rfl _ _ _ _ rfl rfl hrun ?_)
    refine wp_world (fun V => blk V b2 = some (reqE 0 none 0 0 none 0 0 0 none 0 0) ∧ free V b2 = true ∧ blk V b6 = some (reqE 7 a' n' c' none 0 0 0 none 0 0) ∧ Hid (W.Extends V) ∧ Hid (ReqOk V B 7 a' n' c' none 0 0 0 none 0 0 ⟨7, xs.drop 4, [], 0, []⟩)) ⟨?_, ?_, ?_, ?_, ?_⟩ ?_
    · rw [blk_put, if_neg e26]; exact v25
    · rw [free_put]; exact vf25
    · rw [blk_put, if_pos rfl, v65]; rfl
    · exact ext_put_new HE5.out hW6 _
    · exact ReqOk.put (W := W5) ⟨rfl, HRow.out, ⟨[], ownsNil _ _ _ _, ⟨rfl, fun i d it h => by simp at h⟩⟩, rfl, ownsNil _ _ _ _⟩ h6B
    clear v25 vf25 v65 vf65 HE5 HRow hrun g2 gf2 g6 gf6
    rintro V ⟨v2, vf2, v6, HEV, HOk⟩
    have HQ : Hid (decF xs = (0, ⟨7, xs.drop 4, [], 0, []⟩)) := by
      show _ = _
      rw [HDF.out, body1 _ (by omega), fin_ok rfl rfl]
    have HF : Hid (DecPost W (0, ⟨7, xs.drop 4, [], 0, []⟩) (.returned (.tuple #[.agg (reqE 7 a' n' c' none 0 0 0 none 0 0).toArray, .int .i64 0])) (put V b2 (reqE 7 a' n' c' none 0 0 0 none 0 0))) := ⟨_, _, _, _, _, _, _, _, _, _, _, rfl, (HOk.out.put h2B).base hWB, ext_put_new HEV.out hW2 _⟩
    go_wp2_with fail
    refine ret_cell_tmp (C := reqE 7 a' n' c' none 0 0 0 none 0 0) rfl rfl rfl ?_ (by kernel_rfl) (by rw [rq_len]; kernel_rfl) rfl (by rw [HQ.out]; exact HF.out)
    rw [blk_put, if_pos rfl, v2]; rfl
  · have HDF : Hid (decF xs = finF (bodyF 2 (xs.drop 4))) := HDF.out
    have g6 : blk W2 b6 = some (reqE 2 none 0 0 none 0 0 0 none 0 0) := g6
    have l6 := blk_lt g6
    have l2 := blk_lt g2
    go_upto_region 21 with fail
    refine wp_world (fun W3 => blk W3 W2.heap.size = some (itemE false 0 none 0 0) ∧ free W3 W2.heap.size = true ∧ W3.heap.size = W2.heap.size + 1 ∧ Hid (W2.Extends W3)) ⟨?_, ?_, ?_, extends_alloc (ext_Ext (Ext.refl _)) _⟩ ?_
    · rw [blk_alloc, if_pos rfl]; rfl
    · rw [free_alloc, if_pos rfl]
    · rw [World.size_alloc]
    rintro W3 ⟨q10, qf10, qsz, HX3⟩
    obtain ⟨b10, hb10⟩ : ∃ b10, b10 = W2.heap.size := ⟨_, rfl⟩
    rw [← hb10] at q10 qf10 qsz ⊢
    have hB10 : B ≤ b10 := by omega
    have q2 : blk W3 b2 = some (reqE 0 none 0 0 none 0 0 0 none 0 0) := (HX3.out.blk l2).trans g2
    have qf2 : free W3 b2 = true := (free_of_heap (HX3.out.block b2 l2)).trans gf2
    have q6 : blk W3 b6 = some (reqE 2 none 0 0 none 0 0 0 none 0 0) := (HX3.out.blk l6).trans g6
    have qf6 : free W3 b6 = true := (free_of_heap (HX3.out.block b6 l6)).trans gf6
    have e102 : ¬ b2 = b10 := by omega
    have e106 : ¬ b6 = b10 := by omega
    have hW10 : W.heap.size ≤ b10 := by omega
    have HE3 : Hid (W.Extends W3) := HE2.out.trans HX3.out
    clear g2 gf2 g6 gf6 hb10 HX3 l6 l2 HE2
    go_wp2_with fail
    refine (cutFact_any W W3 A4 (n - 4) (c - 4) (by omega) (by omega) (by omega) (xs.drop 4) HA4.out HE3.out).mono ?_
    rintro e W4 ⟨pr, pa, pn, pc, rv, rfl, hit, hX4⟩
    obtain ⟨cd, hcd⟩ : ∃ cd, cd = (factF (xs.drop 4)).1 := ⟨_, rfl⟩
    rw [← hcd]
    rw [← hcd] at hit
    have v2 : blk W4 b2 = some (reqE 0 none 0 0 none 0 0 0 none 0 0) := (hX4.blk (blk_lt q2)).trans q2
    have vf2 : free W4 b2 = true := (free_of_heap (hX4.block b2 (blk_lt q2))).trans qf2
    have v6 : blk W4 b6 = some (reqE 2 none 0 0 none 0 0 0 none 0 0) := (hX4.blk (blk_lt q6)).trans q6
    have vf6 : free W4 b6 = true := (free_of_heap (hX4.block b6 (blk_lt q6))).trans qf6
    have v10 : blk W4 b10 = some (itemE false 0 none 0 0) := (hX4.blk (blk_lt q10)).trans q10
    have vf10 : free W4 b10 = true := (free_of_heap (hX4.block b10 (blk_lt q10))).trans qf10
    have HE4 : Hid (W.Extends W4) := HE3.out.trans hX4
    have hsz4 := hX4.size
    have HIT : Hid (cd = 0 → pr = (factF (xs.drop 4)).2.1 ∧ W4.ownsRow W3.heap.size 9 1 (.slice pa pn pc) (factF (xs.drop 4)).2.2.1.length ((factF (xs.drop 4)).2.2.1.flatMap encS)) := fun h0 => ⟨(hit h0).1, (hit h0).2.1⟩
    have HBd : Hid ((bodyF 2 (xs.drop 4)).1 = cd) := by show _ = _; rw [body2 _ (by omega), hcd]
    have HBo0 : Hid (cd = 0 → ((bodyF 2 (xs.drop 4)).1 = 0 ∧ (bodyF 2 (xs.drop 4)).2.1 = ⟨2, [], [(false, (factF (xs.drop 4)).2.1, (factF (xs.drop 4)).2.2.1)], 0, []⟩ ∧ (bodyF 2 (xs.drop 4)).2.2 = (factF (xs.drop 4)).2.2.2) ∧ RestOk W rv ((factF (xs.drop 4)).2.2.2)) := fun h0 => by
      rw [body2 _ (by omega)]
      exact ⟨⟨by rw [← hcd]; exact h0, rfl, rfl⟩, (hit h0).2.2⟩
    clear hit hcd hX4 q2 qf2 q6 qf6 q10 qf10 HE3
    dsimp only
    go_upto_region 23 with fail
    refine wp_world (fun V1 => blk V1 b2 = some (reqE 0 none 0 0 none 0 0 0 none 0 0) ∧ free V1 b2 = true ∧ blk V1 b6 = some (reqE 2 none 0 0 none 0 0 0 none 0 0) ∧ free V1 b6 = true ∧ blk V1 b10 = some (itemE false pr pa pn pc) ∧ W4.heap.size ≤ V1.heap.size ∧ Hid (W.Extends V1) ∧ Hid (cd = 0 → pr = (factF (xs.drop 4)).2.1 ∧ V1.ownsRow W3.heap.size 9 1 (.slice pa pn pc) (factF (xs.drop 4)).2.2.1.length ((factF (xs.drop 4)).2.2.1.flatMap encS))) ⟨?_, ?_, ?_, ?_, ?_, ?_, ?_, ?_⟩ ?_
    · first | (rw [blk_put, if_neg e102]; exact v2) | (rw [blk_put, if_neg e102, blk_put, if_neg e102]; exact v2)
    · first | (rw [free_put]; exact vf2) | (rw [free_put, free_put]; exact vf2)
    · first | (rw [blk_put, if_neg e106]; exact v6) | (rw [blk_put, if_neg e106, blk_put, if_neg e106]; exact v6)
    · first | (rw [free_put]; exact vf6) | (rw [free_put, free_put]; exact vf6)
    · first | (rw [blk_put, if_pos rfl, v10]; rfl) | (rw [blk_put, if_pos rfl, blk_put, if_pos rfl, v10]; rfl)
    · first | (rw [size_put]; exact Nat.le_refl _) | (rw [size_put, size_put]; exact Nat.le_refl _)
    · first | exact ext_put_new HE4.out hW10 _ | exact ext_put_new (ext_put_new HE4.out hW10 _) hW10 _
    · intro h0
      obtain ⟨i1, i2⟩ := HIT.out h0
      refine ⟨i1, row_keep i2 (fun k hk => ?_)⟩
      have hk1 := (row_at i2 k hk).1
      first | (rw [heap_put, if_neg (by omega)]; done) | (rw [heap_put, if_neg (by omega), heap_put, if_neg (by omega)]; done)
    clear v2 vf2 v6 vf6 v10 vf10 HE4 HIT
    rintro V1 ⟨q2, qf2, q6, qf6, q10, qsz1, HE1, HIT⟩
    have l2 := blk_lt q2
    have l6 := blk_lt q6
    have l10 := blk_lt q10
    have hx5 : V1.Extends (V1.alloc (.cells (itemE false pr pa pn pc).toArray 67)) := extends_alloc (ext_Ext (Ext.refl _)) _
    obtain ⟨v', V6, hrun, ho, hg, _⟩ := appG encD 3 40 34 67 Tryz.underlying34 info52 encD_len encD_one (by omega) (by omega) B (V1.alloc (.cells (itemE false pr pa pn pc).toArray 67)) 28 (.slice none 0 0) [] (false, pr, pa, pn, pc) V1.heap.size 1 (ownsNil _ _ _ _) ((blk_alloc _ _ _ _).trans (if_pos rfl)) (by have := hx5.size; omega) (by simp)
    obtain ⟨a', c', rfl⟩ := row_val ho
    have hX6 : V1.Extends V6 := hx5.trans (grown_ext (ext_Ext (Ext.refl _)) hg (fun k hk => by simp [Value.ownBlock] at hk))
    obtain ⟨n', hn'⟩ : ∃ n', n' = ([] ++ [(false, pr, pa, pn, pc)] : List Dsc).length := ⟨_, rfl⟩
    rw [← hn'] at hrun
    have HOk0 : Hid (cd = 0 → ReqOk V6 B 2 none 0 0 a' n' c' 0 none 0 0 ⟨2, [], [(false, (factF (xs.drop 4)).2.1, (factF (xs.drop 4)).2.2.1)], 0, []⟩) := fun h0 => by
      obtain ⟨i1, i2⟩ := HIT.out h0
      refine ⟨rfl, ownsNil _ _ _ _, ⟨[(false, pr, pa, pn, pc)], hn' ▸ ho, ⟨rfl, fun j d it h1 h2 => ?_⟩⟩, rfl, ownsNil _ _ _ _⟩
      have hj : j = 0 := by have := (List.getElem?_eq_some_iff.1 h1).1; simp at this; omega
      subst hj
      simp at h1 h2
      subst h1 h2
      exact ⟨rfl, i1, row_base (row_keep i2 (fun k hk => hX6.block k (row_at i2 k hk).2.1)) (by omega)⟩
    have v2 : blk V6 b2 = some (reqE 0 none 0 0 none 0 0 0 none 0 0) := (hX6.blk l2).trans q2
    have vf2 : free V6 b2 = true := (free_of_heap (hX6.block b2 l2)).trans qf2
    have v6 : blk V6 b6 = some (reqE 2 none 0 0 none 0 0 0 none 0 0) := (hX6.blk l6).trans q6
    have vf6 : free V6 b6 = true := (free_of_heap (hX6.block b6 l6)).trans qf6
    have HE6 : Hid (W.Extends V6) := HE1.out.trans hX6
    clear hx5 ho hg hX6 hn' HIT qsz1
    go_upto_region 31 with (at_builtin; refine wpList_append_run rfl _ _ 34 rfl _ _ _ _ rfl rfl hrun ?_)
    refine wp_world (fun V => blk V b2 = some (reqE 0 none 0 0 none 0 0 0 none 0 0) ∧ free V b2 = true ∧ blk V b6 = some (reqE 2 none 0 0 a' n' c' 0 none 0 0) ∧ Hid (W.Extends V) ∧ Hid (cd = 0 → ReqOk V B 2 none 0 0 a' n' c' 0 none 0 0 ⟨2, [], [(false, (factF (xs.drop 4)).2.1, (factF (xs.drop 4)).2.2.1)], 0, []⟩)) ⟨?_, ?_, ?_, ?_, ?_⟩ ?_
    · rw [blk_put, if_neg e26]; exact v2
    · rw [free_put]; exact vf2
    · rw [blk_put, if_pos rfl, v6]; rfl
    · exact ext_put_new HE6.out hW6 _
    · exact fun h0 => ReqOk.put (HOk0.out h0) h6B
    clear v2 vf2 v6 vf6 HE6 HOk0 q2 qf2 q6 qf6 q10 HE1 l2 l6 l10 hrun
    rintro V ⟨v2, vf2, v6, HEV, HOk1⟩
    by_cases hcz : cd = 0
    · have HOk : Hid (ReqOk V B 2 none 0 0 a' n' c' 0 none 0 0 ⟨2, [], [(false, (factF (xs.drop 4)).2.1, (factF (xs.drop 4)).2.2.1)], 0, []⟩) := HOk1.out hcz
      obtain ⟨hb1, ra, rc, rfl, _⟩ := HBo0.out hcz
      obtain ⟨rn, hrn⟩ : ∃ rn, rn = ((factF (xs.drop 4)).2.2.2).length := ⟨_, rfl⟩
      rw [← hrn]
      have HRN : Hid (((factF (xs.drop 4)).2.2.2).length = rn) := hrn.symm
      have HBo : Hid ((bodyF 2 (xs.drop 4)).1 = 0 ∧ (bodyF 2 (xs.drop 4)).2.1 = ⟨2, [], [(false, (factF (xs.drop 4)).2.1, (factF (xs.drop 4)).2.2.1)], 0, []⟩ ∧ (bodyF 2 (xs.drop 4)).2.2 = (factF (xs.drop 4)).2.2.2) := hb1
      clear HBo0 HOk1 HBd hb1 hrn
      subst hcz
      by_cases hre : rn = 0
      · have HQ : Hid (decF xs = (0, ⟨2, [], [(false, (factF (xs.drop 4)).2.1, (factF (xs.drop 4)).2.2.1)], 0, []⟩)) := by
          show _ = _
          rw [HDF.out, fin_ok HBo.out.1 (by rw [HBo.out.2.2]; exact List.eq_nil_of_length_eq_zero (HRN.out.trans hre)), HBo.out.2.1]
        have hl0 : (rn : Int) = 0 := by omega
        have HF : Hid (DecPost W (0, ⟨2, [], [(false, (factF (xs.drop 4)).2.1, (factF (xs.drop 4)).2.2.1)], 0, []⟩) (.returned (.tuple #[.agg (reqE 2 none 0 0 a' n' c' 0 none 0 0).toArray, .int .i64 0])) (put V b2 (reqE 2 none 0 0 a' n' c' 0 none 0 0))) := ⟨_, _, _, _, _, _, _, _, _, _, _, rfl, (HOk.out.put h2B).base hWB, ext_put_new HEV.out hW2 _⟩
        go_wp2_with fail
        refine ret_cell_tmp (C := reqE 2 none 0 0 a' n' c' 0 none 0 0) rfl rfl rfl ?_ (by kernel_rfl) (by rw [rq_len]; kernel_rfl) rfl (by rw [HQ.out]; exact HF.out)
        rw [blk_put, if_pos rfl, v2]; rfl
      · have HQ : Hid (decF xs = (6, Rq.zero)) := by
          show _ = _
          rw [HDF.out, fin_trail HBo.out.1 (by rw [HBo.out.2.2]; intro h; exact hre (HRN.out.symm.trans (congrArg List.length h)))]
        have hl0 : ¬ (rn : Int) = 0 := by omega
        go_wp2_with fail
        refine ret_cell_tmp (C := reqE 0 none 0 0 none 0 0 0 none 0 0) rfl rfl rfl ?_ (by kernel_rfl) (by rw [rq_len]; kernel_rfl) rfl (by rw [HQ.out]; exact (HF0 _).out (by first | exact ext_put_new (HEV.out) hW2 _ | exact extends_drewN (ext_put_new (HX0.out) hW2 _) _ | exact ext_put_new (extends_drewN HX0.out _) hW2 _) 6)
        first | (rw [blk_put, if_pos rfl, v2]; rfl) | (rw [blk_put, if_pos rfl, blk_drewN, v2]; rfl) | (rw [blk_drewN, blk_put, if_pos rfl, v2]; rfl)
    · skip
      have HQ : Hid (decF xs = (cd, Rq.zero)) := by
        show _ = _
        rw [HDF.out, fin_bad (by rw [HBd.out]; exact hcz), HBd.out]
      have hzb : (cd == 0) = false := by simp [hcz]
      go_wp2_with fail
      refine ret_cell_tmp (C := reqE 0 none 0 0 none 0 0 0 none 0 0) rfl rfl rfl ?_ (by kernel_rfl) (by rw [rq_len]; kernel_rfl) rfl (by rw [HQ.out]; exact (HF0 _).out (by first | exact ext_put_new (HEV.out) hW2 _ | exact extends_drewN (ext_put_new (HX0.out) hW2 _) _ | exact ext_put_new (extends_drewN HX0.out _) hW2 _) cd)
      first | (rw [blk_put, if_pos rfl, v2]; rfl) | (rw [blk_put, if_pos rfl, blk_drewN, v2]; rfl) | (rw [blk_drewN, blk_put, if_pos rfl, v2]; rfl)
  · have HDF : Hid (decF xs = finF (bodyF 3 (xs.drop 4))) := HDF.out
    have g6 : blk W2 b6 = some (reqE 3 none 0 0 none 0 0 0 none 0 0) := g6
    have l6 := blk_lt g6
    have l2 := blk_lt g2
    go_upto_region 21 with fail
    refine wp_world (fun W3 => blk W3 W2.heap.size = some (itemE false 0 none 0 0) ∧ free W3 W2.heap.size = true ∧ W3.heap.size = W2.heap.size + 1 ∧ Hid (W2.Extends W3)) ⟨?_, ?_, ?_, extends_alloc (ext_Ext (Ext.refl _)) _⟩ ?_
    · rw [blk_alloc, if_pos rfl]; rfl
    · rw [free_alloc, if_pos rfl]
    · rw [World.size_alloc]
    rintro W3 ⟨q10, qf10, qsz, HX3⟩
    obtain ⟨b10, hb10⟩ : ∃ b10, b10 = W2.heap.size := ⟨_, rfl⟩
    rw [← hb10] at q10 qf10 qsz ⊢
    have hB10 : B ≤ b10 := by omega
    have q2 : blk W3 b2 = some (reqE 0 none 0 0 none 0 0 0 none 0 0) := (HX3.out.blk l2).trans g2
    have qf2 : free W3 b2 = true := (free_of_heap (HX3.out.block b2 l2)).trans gf2
    have q6 : blk W3 b6 = some (reqE 3 none 0 0 none 0 0 0 none 0 0) := (HX3.out.blk l6).trans g6
    have qf6 : free W3 b6 = true := (free_of_heap (HX3.out.block b6 l6)).trans gf6
    have e102 : ¬ b2 = b10 := by omega
    have e106 : ¬ b6 = b10 := by omega
    have hW10 : W.heap.size ≤ b10 := by omega
    have HE3 : Hid (W.Extends W3) := HE2.out.trans HX3.out
    clear g2 gf2 g6 gf6 hb10 HX3 l6 l2 HE2
    go_wp2_with fail
    refine (cutFact_any W W3 A4 (n - 4) (c - 4) (by omega) (by omega) (by omega) (xs.drop 4) HA4.out HE3.out).mono ?_
    rintro e W4 ⟨pr, pa, pn, pc, rv, rfl, hit, hX4⟩
    obtain ⟨cd, hcd⟩ : ∃ cd, cd = (factF (xs.drop 4)).1 := ⟨_, rfl⟩
    rw [← hcd]
    rw [← hcd] at hit
    have v2 : blk W4 b2 = some (reqE 0 none 0 0 none 0 0 0 none 0 0) := (hX4.blk (blk_lt q2)).trans q2
    have vf2 : free W4 b2 = true := (free_of_heap (hX4.block b2 (blk_lt q2))).trans qf2
    have v6 : blk W4 b6 = some (reqE 3 none 0 0 none 0 0 0 none 0 0) := (hX4.blk (blk_lt q6)).trans q6
    have vf6 : free W4 b6 = true := (free_of_heap (hX4.block b6 (blk_lt q6))).trans qf6
    have v10 : blk W4 b10 = some (itemE false 0 none 0 0) := (hX4.blk (blk_lt q10)).trans q10
    have vf10 : free W4 b10 = true := (free_of_heap (hX4.block b10 (blk_lt q10))).trans qf10
    have HE4 : Hid (W.Extends W4) := HE3.out.trans hX4
    have hsz4 := hX4.size
    have HIT : Hid (cd = 0 → pr = (factF (xs.drop 4)).2.1 ∧ W4.ownsRow W3.heap.size 9 1 (.slice pa pn pc) (factF (xs.drop 4)).2.2.1.length ((factF (xs.drop 4)).2.2.1.flatMap encS)) := fun h0 => ⟨(hit h0).1, (hit h0).2.1⟩
    have HBd : Hid ((bodyF 3 (xs.drop 4)).1 = cd) := by show _ = _; rw [body2 _ (by omega), hcd]
    have HBo0 : Hid (cd = 0 → ((bodyF 3 (xs.drop 4)).1 = 0 ∧ (bodyF 3 (xs.drop 4)).2.1 = ⟨3, [], [(true, (factF (xs.drop 4)).2.1, (factF (xs.drop 4)).2.2.1)], 0, []⟩ ∧ (bodyF 3 (xs.drop 4)).2.2 = (factF (xs.drop 4)).2.2.2) ∧ RestOk W rv ((factF (xs.drop 4)).2.2.2)) := fun h0 => by
      rw [body2 _ (by omega)]
      exact ⟨⟨by rw [← hcd]; exact h0, rfl, rfl⟩, (hit h0).2.2⟩
    clear hit hcd hX4 q2 qf2 q6 qf6 q10 qf10 HE3
    dsimp only
    go_upto_region 23 with fail
    refine wp_world (fun V1 => blk V1 b2 = some (reqE 0 none 0 0 none 0 0 0 none 0 0) ∧ free V1 b2 = true ∧ blk V1 b6 = some (reqE 3 none 0 0 none 0 0 0 none 0 0) ∧ free V1 b6 = true ∧ blk V1 b10 = some (itemE true pr pa pn pc) ∧ W4.heap.size ≤ V1.heap.size ∧ Hid (W.Extends V1) ∧ Hid (cd = 0 → pr = (factF (xs.drop 4)).2.1 ∧ V1.ownsRow W3.heap.size 9 1 (.slice pa pn pc) (factF (xs.drop 4)).2.2.1.length ((factF (xs.drop 4)).2.2.1.flatMap encS))) ⟨?_, ?_, ?_, ?_, ?_, ?_, ?_, ?_⟩ ?_
    · first | (rw [blk_put, if_neg e102]; exact v2) | (rw [blk_put, if_neg e102, blk_put, if_neg e102]; exact v2)
    · first | (rw [free_put]; exact vf2) | (rw [free_put, free_put]; exact vf2)
    · first | (rw [blk_put, if_neg e106]; exact v6) | (rw [blk_put, if_neg e106, blk_put, if_neg e106]; exact v6)
    · first | (rw [free_put]; exact vf6) | (rw [free_put, free_put]; exact vf6)
    · first | (rw [blk_put, if_pos rfl, v10]; rfl) | (rw [blk_put, if_pos rfl, blk_put, if_pos rfl, v10]; rfl)
    · first | (rw [size_put]; exact Nat.le_refl _) | (rw [size_put, size_put]; exact Nat.le_refl _)
    · first | exact ext_put_new HE4.out hW10 _ | exact ext_put_new (ext_put_new HE4.out hW10 _) hW10 _
    · intro h0
      obtain ⟨i1, i2⟩ := HIT.out h0
      refine ⟨i1, row_keep i2 (fun k hk => ?_)⟩
      have hk1 := (row_at i2 k hk).1
      first | (rw [heap_put, if_neg (by omega)]; done) | (rw [heap_put, if_neg (by omega), heap_put, if_neg (by omega)]; done)
    clear v2 vf2 v6 vf6 v10 vf10 HE4 HIT
    rintro V1 ⟨q2, qf2, q6, qf6, q10, qsz1, HE1, HIT⟩
    have l2 := blk_lt q2
    have l6 := blk_lt q6
    have l10 := blk_lt q10
    have hx5 : V1.Extends (V1.alloc (.cells (itemE true pr pa pn pc).toArray 67)) := extends_alloc (ext_Ext (Ext.refl _)) _
    obtain ⟨v', V6, hrun, ho, hg, _⟩ := appG encD 3 40 34 67 Tryz.underlying34 info52 encD_len encD_one (by omega) (by omega) B (V1.alloc (.cells (itemE true pr pa pn pc).toArray 67)) 28 (.slice none 0 0) [] (true, pr, pa, pn, pc) V1.heap.size 1 (ownsNil _ _ _ _) ((blk_alloc _ _ _ _).trans (if_pos rfl)) (by have := hx5.size; omega) (by simp)
    obtain ⟨a', c', rfl⟩ := row_val ho
    have hX6 : V1.Extends V6 := hx5.trans (grown_ext (ext_Ext (Ext.refl _)) hg (fun k hk => by simp [Value.ownBlock] at hk))
    obtain ⟨n', hn'⟩ : ∃ n', n' = ([] ++ [(true, pr, pa, pn, pc)] : List Dsc).length := ⟨_, rfl⟩
    rw [← hn'] at hrun
    have HOk0 : Hid (cd = 0 → ReqOk V6 B 3 none 0 0 a' n' c' 0 none 0 0 ⟨3, [], [(true, (factF (xs.drop 4)).2.1, (factF (xs.drop 4)).2.2.1)], 0, []⟩) := fun h0 => by
      obtain ⟨i1, i2⟩ := HIT.out h0
      refine ⟨rfl, ownsNil _ _ _ _, ⟨[(true, pr, pa, pn, pc)], hn' ▸ ho, ⟨rfl, fun j d it h1 h2 => ?_⟩⟩, rfl, ownsNil _ _ _ _⟩
      have hj : j = 0 := by have := (List.getElem?_eq_some_iff.1 h1).1; simp at this; omega
      subst hj
      simp at h1 h2
      subst h1 h2
      exact ⟨rfl, i1, row_base (row_keep i2 (fun k hk => hX6.block k (row_at i2 k hk).2.1)) (by omega)⟩
    have v2 : blk V6 b2 = some (reqE 0 none 0 0 none 0 0 0 none 0 0) := (hX6.blk l2).trans q2
    have vf2 : free V6 b2 = true := (free_of_heap (hX6.block b2 l2)).trans qf2
    have v6 : blk V6 b6 = some (reqE 3 none 0 0 none 0 0 0 none 0 0) := (hX6.blk l6).trans q6
    have vf6 : free V6 b6 = true := (free_of_heap (hX6.block b6 l6)).trans qf6
    have HE6 : Hid (W.Extends V6) := HE1.out.trans hX6
    clear hx5 ho hg hX6 hn' HIT qsz1
    go_upto_region 31 with (at_builtin; refine wpList_append_run rfl _ _ 34 rfl _ _ _ _ rfl rfl hrun ?_)
    refine wp_world (fun V => blk V b2 = some (reqE 0 none 0 0 none 0 0 0 none 0 0) ∧ free V b2 = true ∧ blk V b6 = some (reqE 3 none 0 0 a' n' c' 0 none 0 0) ∧ Hid (W.Extends V) ∧ Hid (cd = 0 → ReqOk V B 3 none 0 0 a' n' c' 0 none 0 0 ⟨3, [], [(true, (factF (xs.drop 4)).2.1, (factF (xs.drop 4)).2.2.1)], 0, []⟩)) ⟨?_, ?_, ?_, ?_, ?_⟩ ?_
    · rw [blk_put, if_neg e26]; exact v2
    · rw [free_put]; exact vf2
    · rw [blk_put, if_pos rfl, v6]; rfl
    · exact ext_put_new HE6.out hW6 _
    · exact fun h0 => ReqOk.put (HOk0.out h0) h6B
    clear v2 vf2 v6 vf6 HE6 HOk0 q2 qf2 q6 qf6 q10 HE1 l2 l6 l10 hrun
    rintro V ⟨v2, vf2, v6, HEV, HOk1⟩
    by_cases hcz : cd = 0
    · have HOk : Hid (ReqOk V B 3 none 0 0 a' n' c' 0 none 0 0 ⟨3, [], [(true, (factF (xs.drop 4)).2.1, (factF (xs.drop 4)).2.2.1)], 0, []⟩) := HOk1.out hcz
      obtain ⟨hb1, ra, rc, rfl, _⟩ := HBo0.out hcz
      obtain ⟨rn, hrn⟩ : ∃ rn, rn = ((factF (xs.drop 4)).2.2.2).length := ⟨_, rfl⟩
      rw [← hrn]
      have HRN : Hid (((factF (xs.drop 4)).2.2.2).length = rn) := hrn.symm
      have HBo : Hid ((bodyF 3 (xs.drop 4)).1 = 0 ∧ (bodyF 3 (xs.drop 4)).2.1 = ⟨3, [], [(true, (factF (xs.drop 4)).2.1, (factF (xs.drop 4)).2.2.1)], 0, []⟩ ∧ (bodyF 3 (xs.drop 4)).2.2 = (factF (xs.drop 4)).2.2.2) := hb1
      clear HBo0 HOk1 HBd hb1 hrn
      subst hcz
      by_cases hre : rn = 0
      · have HQ : Hid (decF xs = (0, ⟨3, [], [(true, (factF (xs.drop 4)).2.1, (factF (xs.drop 4)).2.2.1)], 0, []⟩)) := by
          show _ = _
          rw [HDF.out, fin_ok HBo.out.1 (by rw [HBo.out.2.2]; exact List.eq_nil_of_length_eq_zero (HRN.out.trans hre)), HBo.out.2.1]
        have hl0 : (rn : Int) = 0 := by omega
        have HF : Hid (DecPost W (0, ⟨3, [], [(true, (factF (xs.drop 4)).2.1, (factF (xs.drop 4)).2.2.1)], 0, []⟩) (.returned (.tuple #[.agg (reqE 3 none 0 0 a' n' c' 0 none 0 0).toArray, .int .i64 0])) (put V b2 (reqE 3 none 0 0 a' n' c' 0 none 0 0))) := ⟨_, _, _, _, _, _, _, _, _, _, _, rfl, (HOk.out.put h2B).base hWB, ext_put_new HEV.out hW2 _⟩
        go_wp2_with fail
        refine ret_cell_tmp (C := reqE 3 none 0 0 a' n' c' 0 none 0 0) rfl rfl rfl ?_ (by kernel_rfl) (by rw [rq_len]; kernel_rfl) rfl (by rw [HQ.out]; exact HF.out)
        rw [blk_put, if_pos rfl, v2]; rfl
      · have HQ : Hid (decF xs = (6, Rq.zero)) := by
          show _ = _
          rw [HDF.out, fin_trail HBo.out.1 (by rw [HBo.out.2.2]; intro h; exact hre (HRN.out.symm.trans (congrArg List.length h)))]
        have hl0 : ¬ (rn : Int) = 0 := by omega
        go_wp2_with fail
        refine ret_cell_tmp (C := reqE 0 none 0 0 none 0 0 0 none 0 0) rfl rfl rfl ?_ (by kernel_rfl) (by rw [rq_len]; kernel_rfl) rfl (by rw [HQ.out]; exact (HF0 _).out (by first | exact ext_put_new (HEV.out) hW2 _ | exact extends_drewN (ext_put_new (HX0.out) hW2 _) _ | exact ext_put_new (extends_drewN HX0.out _) hW2 _) 6)
        first | (rw [blk_put, if_pos rfl, v2]; rfl) | (rw [blk_put, if_pos rfl, blk_drewN, v2]; rfl) | (rw [blk_drewN, blk_put, if_pos rfl, v2]; rfl)
    · skip
      have HQ : Hid (decF xs = (cd, Rq.zero)) := by
        show _ = _
        rw [HDF.out, fin_bad (by rw [HBd.out]; exact hcz), HBd.out]
      have hzb : (cd == 0) = false := by simp [hcz]
      go_wp2_with fail
      refine ret_cell_tmp (C := reqE 0 none 0 0 none 0 0 0 none 0 0) rfl rfl rfl ?_ (by kernel_rfl) (by rw [rq_len]; kernel_rfl) rfl (by rw [HQ.out]; exact (HF0 _).out (by first | exact ext_put_new (HEV.out) hW2 _ | exact extends_drewN (ext_put_new (HX0.out) hW2 _) _ | exact ext_put_new (extends_drewN HX0.out _) hW2 _) cd)
      first | (rw [blk_put, if_pos rfl, v2]; rfl) | (rw [blk_put, if_pos rfl, blk_drewN, v2]; rfl) | (rw [blk_drewN, blk_put, if_pos rfl, v2]; rfl)
  · have HDF : Hid (decF xs = finF (bodyF 5 (xs.drop 4))) := HDF.out
    have g6 : blk W2 b6 = some (reqE 5 none 0 0 none 0 0 0 none 0 0) := g6
    have l6 := blk_lt g6
    have l2 := blk_lt g2
    go_upto_region 21 with fail
    refine wp_world (fun W3 => blk W3 W2.heap.size = some (itemE false 0 none 0 0) ∧ free W3 W2.heap.size = true ∧ W3.heap.size = W2.heap.size + 1 ∧ Hid (W2.Extends W3)) ⟨?_, ?_, ?_, extends_alloc (ext_Ext (Ext.refl _)) _⟩ ?_
    · rw [blk_alloc, if_pos rfl]; rfl
    · rw [free_alloc, if_pos rfl]
    · rw [World.size_alloc]
    rintro W3 ⟨q10, qf10, qsz, HX3⟩
    obtain ⟨b10, hb10⟩ : ∃ b10, b10 = W2.heap.size := ⟨_, rfl⟩
    rw [← hb10] at q10 qf10 qsz ⊢
    have hB10 : B ≤ b10 := by omega
    have q2 : blk W3 b2 = some (reqE 0 none 0 0 none 0 0 0 none 0 0) := (HX3.out.blk l2).trans g2
    have qf2 : free W3 b2 = true := (free_of_heap (HX3.out.block b2 l2)).trans gf2
    have q6 : blk W3 b6 = some (reqE 5 none 0 0 none 0 0 0 none 0 0) := (HX3.out.blk l6).trans g6
    have qf6 : free W3 b6 = true := (free_of_heap (HX3.out.block b6 l6)).trans gf6
    have e102 : ¬ b2 = b10 := by omega
    have e106 : ¬ b6 = b10 := by omega
    have hW10 : W.heap.size ≤ b10 := by omega
    have HE3 : Hid (W.Extends W3) := HE2.out.trans HX3.out
    clear g2 gf2 g6 gf6 hb10 HX3 l6 l2 HE2
    go_wp2_with fail
    refine (cutFact_any W W3 A4 (n - 4) (c - 4) (by omega) (by omega) (by omega) (xs.drop 4) HA4.out HE3.out).mono ?_
    rintro e W4 ⟨pr, pa, pn, pc, rv, rfl, hit, hX4⟩
    obtain ⟨cd, hcd⟩ : ∃ cd, cd = (factF (xs.drop 4)).1 := ⟨_, rfl⟩
    rw [← hcd]
    rw [← hcd] at hit
    have v2 : blk W4 b2 = some (reqE 0 none 0 0 none 0 0 0 none 0 0) := (hX4.blk (blk_lt q2)).trans q2
    have vf2 : free W4 b2 = true := (free_of_heap (hX4.block b2 (blk_lt q2))).trans qf2
    have v6 : blk W4 b6 = some (reqE 5 none 0 0 none 0 0 0 none 0 0) := (hX4.blk (blk_lt q6)).trans q6
    have vf6 : free W4 b6 = true := (free_of_heap (hX4.block b6 (blk_lt q6))).trans qf6
    have v10 : blk W4 b10 = some (itemE false 0 none 0 0) := (hX4.blk (blk_lt q10)).trans q10
    have vf10 : free W4 b10 = true := (free_of_heap (hX4.block b10 (blk_lt q10))).trans qf10
    have HE4 : Hid (W.Extends W4) := HE3.out.trans hX4
    have hsz4 := hX4.size
    have HIT : Hid (cd = 0 → pr = (factF (xs.drop 4)).2.1 ∧ W4.ownsRow W3.heap.size 9 1 (.slice pa pn pc) (factF (xs.drop 4)).2.2.1.length ((factF (xs.drop 4)).2.2.1.flatMap encS)) := fun h0 => ⟨(hit h0).1, (hit h0).2.1⟩
    have HBd : Hid ((bodyF 5 (xs.drop 4)).1 = cd) := by show _ = _; rw [body2 _ (by omega), hcd]
    have HBo0 : Hid (cd = 0 → ((bodyF 5 (xs.drop 4)).1 = 0 ∧ (bodyF 5 (xs.drop 4)).2.1 = ⟨5, [], [(false, (factF (xs.drop 4)).2.1, (factF (xs.drop 4)).2.2.1)], 0, []⟩ ∧ (bodyF 5 (xs.drop 4)).2.2 = (factF (xs.drop 4)).2.2.2) ∧ RestOk W rv ((factF (xs.drop 4)).2.2.2)) := fun h0 => by
      rw [body2 _ (by omega)]
      exact ⟨⟨by rw [← hcd]; exact h0, rfl, rfl⟩, (hit h0).2.2⟩
    clear hit hcd hX4 q2 qf2 q6 qf6 q10 qf10 HE3
    dsimp only
    go_upto_region 23 with fail
    refine wp_world (fun V1 => blk V1 b2 = some (reqE 0 none 0 0 none 0 0 0 none 0 0) ∧ free V1 b2 = true ∧ blk V1 b6 = some (reqE 5 none 0 0 none 0 0 0 none 0 0) ∧ free V1 b6 = true ∧ blk V1 b10 = some (itemE false pr pa pn pc) ∧ W4.heap.size ≤ V1.heap.size ∧ Hid (W.Extends V1) ∧ Hid (cd = 0 → pr = (factF (xs.drop 4)).2.1 ∧ V1.ownsRow W3.heap.size 9 1 (.slice pa pn pc) (factF (xs.drop 4)).2.2.1.length ((factF (xs.drop 4)).2.2.1.flatMap encS))) ⟨?_, ?_, ?_, ?_, ?_, ?_, ?_, ?_⟩ ?_
    · first | (rw [blk_put, if_neg e102]; exact v2) | (rw [blk_put, if_neg e102, blk_put, if_neg e102]; exact v2)
    · first | (rw [free_put]; exact vf2) | (rw [free_put, free_put]; exact vf2)
    · first | (rw [blk_put, if_neg e106]; exact v6) | (rw [blk_put, if_neg e106, blk_put, if_neg e106]; exact v6)
    · first | (rw [free_put]; exact vf6) | (rw [free_put, free_put]; exact vf6)
    · first | (rw [blk_put, if_pos rfl, v10]; rfl) | (rw [blk_put, if_pos rfl, blk_put, if_pos rfl, v10]; rfl)
    · first | (rw [size_put]; exact Nat.le_refl _) | (rw [size_put, size_put]; exact Nat.le_refl _)
    · first | exact ext_put_new HE4.out hW10 _ | exact ext_put_new (ext_put_new HE4.out hW10 _) hW10 _
    · intro h0
      obtain ⟨i1, i2⟩ := HIT.out h0
      refine ⟨i1, row_keep i2 (fun k hk => ?_)⟩
      have hk1 := (row_at i2 k hk).1
      first | (rw [heap_put, if_neg (by omega)]; done) | (rw [heap_put, if_neg (by omega), heap_put, if_neg (by omega)]; done)
    clear v2 vf2 v6 vf6 v10 vf10 HE4 HIT
    rintro V1 ⟨q2, qf2, q6, qf6, q10, qsz1, HE1, HIT⟩
    have l2 := blk_lt q2
    have l6 := blk_lt q6
    have l10 := blk_lt q10
    have hx5 : V1.Extends (V1.alloc (.cells (itemE false pr pa pn pc).toArray 67)) := extends_alloc (ext_Ext (Ext.refl _)) _
    obtain ⟨v', V6, hrun, ho, hg, _⟩ := appG encD 3 40 34 67 Tryz.underlying34 info52 encD_len encD_one (by omega) (by omega) B (V1.alloc (.cells (itemE false pr pa pn pc).toArray 67)) 28 (.slice none 0 0) [] (false, pr, pa, pn, pc) V1.heap.size 1 (ownsNil _ _ _ _) ((blk_alloc _ _ _ _).trans (if_pos rfl)) (by have := hx5.size; omega) (by simp)
    obtain ⟨a', c', rfl⟩ := row_val ho
    have hX6 : V1.Extends V6 := hx5.trans (grown_ext (ext_Ext (Ext.refl _)) hg (fun k hk => by simp [Value.ownBlock] at hk))
    obtain ⟨n', hn'⟩ : ∃ n', n' = ([] ++ [(false, pr, pa, pn, pc)] : List Dsc).length := ⟨_, rfl⟩
    rw [← hn'] at hrun
    have HOk0 : Hid (cd = 0 → ReqOk V6 B 5 none 0 0 a' n' c' 0 none 0 0 ⟨5, [], [(false, (factF (xs.drop 4)).2.1, (factF (xs.drop 4)).2.2.1)], 0, []⟩) := fun h0 => by
      obtain ⟨i1, i2⟩ := HIT.out h0
      refine ⟨rfl, ownsNil _ _ _ _, ⟨[(false, pr, pa, pn, pc)], hn' ▸ ho, ⟨rfl, fun j d it h1 h2 => ?_⟩⟩, rfl, ownsNil _ _ _ _⟩
      have hj : j = 0 := by have := (List.getElem?_eq_some_iff.1 h1).1; simp at this; omega
      subst hj
      simp at h1 h2
      subst h1 h2
      exact ⟨rfl, i1, row_base (row_keep i2 (fun k hk => hX6.block k (row_at i2 k hk).2.1)) (by omega)⟩
    have v2 : blk V6 b2 = some (reqE 0 none 0 0 none 0 0 0 none 0 0) := (hX6.blk l2).trans q2
    have vf2 : free V6 b2 = true := (free_of_heap (hX6.block b2 l2)).trans qf2
    have v6 : blk V6 b6 = some (reqE 5 none 0 0 none 0 0 0 none 0 0) := (hX6.blk l6).trans q6
    have vf6 : free V6 b6 = true := (free_of_heap (hX6.block b6 l6)).trans qf6
    have HE6 : Hid (W.Extends V6) := HE1.out.trans hX6
    clear hx5 ho hg hX6 hn' HIT qsz1
    go_upto_region 31 with (at_builtin; refine wpList_append_run rfl _ _ 34 rfl _ _ _ _ rfl rfl hrun ?_)
    refine wp_world (fun V => blk V b2 = some (reqE 0 none 0 0 none 0 0 0 none 0 0) ∧ free V b2 = true ∧ blk V b6 = some (reqE 5 none 0 0 a' n' c' 0 none 0 0) ∧ Hid (W.Extends V) ∧ Hid (cd = 0 → ReqOk V B 5 none 0 0 a' n' c' 0 none 0 0 ⟨5, [], [(false, (factF (xs.drop 4)).2.1, (factF (xs.drop 4)).2.2.1)], 0, []⟩)) ⟨?_, ?_, ?_, ?_, ?_⟩ ?_
    · rw [blk_put, if_neg e26]; exact v2
    · rw [free_put]; exact vf2
    · rw [blk_put, if_pos rfl, v6]; rfl
    · exact ext_put_new HE6.out hW6 _
    · exact fun h0 => ReqOk.put (HOk0.out h0) h6B
    clear v2 vf2 v6 vf6 HE6 HOk0 q2 qf2 q6 qf6 q10 HE1 l2 l6 l10 hrun
    rintro V ⟨v2, vf2, v6, HEV, HOk1⟩
    by_cases hcz : cd = 0
    · have HOk : Hid (ReqOk V B 5 none 0 0 a' n' c' 0 none 0 0 ⟨5, [], [(false, (factF (xs.drop 4)).2.1, (factF (xs.drop 4)).2.2.1)], 0, []⟩) := HOk1.out hcz
      obtain ⟨hb1, ra, rc, rfl, _⟩ := HBo0.out hcz
      obtain ⟨rn, hrn⟩ : ∃ rn, rn = ((factF (xs.drop 4)).2.2.2).length := ⟨_, rfl⟩
      rw [← hrn]
      have HRN : Hid (((factF (xs.drop 4)).2.2.2).length = rn) := hrn.symm
      have HBo : Hid ((bodyF 5 (xs.drop 4)).1 = 0 ∧ (bodyF 5 (xs.drop 4)).2.1 = ⟨5, [], [(false, (factF (xs.drop 4)).2.1, (factF (xs.drop 4)).2.2.1)], 0, []⟩ ∧ (bodyF 5 (xs.drop 4)).2.2 = (factF (xs.drop 4)).2.2.2) := hb1
      clear HBo0 HOk1 HBd hb1 hrn
      subst hcz
      by_cases hre : rn = 0
      · have HQ : Hid (decF xs = (0, ⟨5, [], [(false, (factF (xs.drop 4)).2.1, (factF (xs.drop 4)).2.2.1)], 0, []⟩)) := by
          show _ = _
          rw [HDF.out, fin_ok HBo.out.1 (by rw [HBo.out.2.2]; exact List.eq_nil_of_length_eq_zero (HRN.out.trans hre)), HBo.out.2.1]
        have hl0 : (rn : Int) = 0 := by omega
        have HF : Hid (DecPost W (0, ⟨5, [], [(false, (factF (xs.drop 4)).2.1, (factF (xs.drop 4)).2.2.1)], 0, []⟩) (.returned (.tuple #[.agg (reqE 5 none 0 0 a' n' c' 0 none 0 0).toArray, .int .i64 0])) (put V b2 (reqE 5 none 0 0 a' n' c' 0 none 0 0))) := ⟨_, _, _, _, _, _, _, _, _, _, _, rfl, (HOk.out.put h2B).base hWB, ext_put_new HEV.out hW2 _⟩
        go_wp2_with fail
        refine ret_cell_tmp (C := reqE 5 none 0 0 a' n' c' 0 none 0 0) rfl rfl rfl ?_ (by kernel_rfl) (by rw [rq_len]; kernel_rfl) rfl (by rw [HQ.out]; exact HF.out)
        rw [blk_put, if_pos rfl, v2]; rfl
      · have HQ : Hid (decF xs = (6, Rq.zero)) := by
          show _ = _
          rw [HDF.out, fin_trail HBo.out.1 (by rw [HBo.out.2.2]; intro h; exact hre (HRN.out.symm.trans (congrArg List.length h)))]
        have hl0 : ¬ (rn : Int) = 0 := by omega
        go_wp2_with fail
        refine ret_cell_tmp (C := reqE 0 none 0 0 none 0 0 0 none 0 0) rfl rfl rfl ?_ (by kernel_rfl) (by rw [rq_len]; kernel_rfl) rfl (by rw [HQ.out]; exact (HF0 _).out (by first | exact ext_put_new (HEV.out) hW2 _ | exact extends_drewN (ext_put_new (HX0.out) hW2 _) _ | exact ext_put_new (extends_drewN HX0.out _) hW2 _) 6)
        first | (rw [blk_put, if_pos rfl, v2]; rfl) | (rw [blk_put, if_pos rfl, blk_drewN, v2]; rfl) | (rw [blk_drewN, blk_put, if_pos rfl, v2]; rfl)
    · skip
      have HQ : Hid (decF xs = (cd, Rq.zero)) := by
        show _ = _
        rw [HDF.out, fin_bad (by rw [HBd.out]; exact hcz), HBd.out]
      have hzb : (cd == 0) = false := by simp [hcz]
      go_wp2_with fail
      refine ret_cell_tmp (C := reqE 0 none 0 0 none 0 0 0 none 0 0) rfl rfl rfl ?_ (by kernel_rfl) (by rw [rq_len]; kernel_rfl) rfl (by rw [HQ.out]; exact (HF0 _).out (by first | exact ext_put_new (HEV.out) hW2 _ | exact extends_drewN (ext_put_new (HX0.out) hW2 _) _ | exact ext_put_new (extends_drewN HX0.out _) hW2 _) cd)
      first | (rw [blk_put, if_pos rfl, v2]; rfl) | (rw [blk_put, if_pos rfl, blk_drewN, v2]; rfl) | (rw [blk_drewN, blk_put, if_pos rfl, v2]; rfl)
  · have HDF : Hid (decF xs = finF (bodyF 4 (xs.drop 4))) := HDF.out
    have g6 : blk W2 b6 = some (reqE 4 none 0 0 none 0 0 0 none 0 0) := g6
    go_wp2_with fail
    refine (cutBatch_any W W2 A4 (n - 4) (c - 4) (by omega) (by omega) (by omega) (xs.drop 4) HA4.out HE2.out).mono ?_
    rintro e W4 ⟨sa, sn, sc, rv, rfl, hok, hX4⟩
    obtain ⟨cd, hcd⟩ : ∃ cd, cd = (batchF (xs.drop 4)).1 := ⟨_, rfl⟩
    rw [← hcd]
    rw [← hcd] at hok
    have v2 : blk W4 b2 = some (reqE 0 none 0 0 none 0 0 0 none 0 0) := (hX4.blk (blk_lt g2)).trans g2
    have vf2 : free W4 b2 = true := (free_of_heap (hX4.block b2 (blk_lt g2))).trans gf2
    have v6 : blk W4 b6 = some (reqE 4 none 0 0 none 0 0 0 none 0 0) := (hX4.blk (blk_lt g6)).trans g6
    have vf6 : free W4 b6 = true := (free_of_heap (hX4.block b6 (blk_lt g6))).trans gf6
    have HE4 : Hid (W.Extends W4) := HE2.out.trans hX4
    have HOk0 : Hid (cd = 0 → ReqOk W4 B 4 none 0 0 sa sn sc 0 none 0 0 ⟨4, [], (batchF (xs.drop 4)).2.1, 0, []⟩) := fun h0 => by
      obtain ⟨⟨K, h1, h2⟩, _⟩ := hok h0
      exact ⟨rfl, ownsNil _ _ _ _, ⟨K, row_base h1 hBV, h2.base hBV⟩, rfl, ownsNil _ _ _ _⟩
    have HBd : Hid ((bodyF 4 (xs.drop 4)).1 = cd) := by show _ = _; rw [body4, hcd]
    have HBo0 : Hid (cd = 0 → ((bodyF 4 (xs.drop 4)).1 = 0 ∧ (bodyF 4 (xs.drop 4)).2.1 = ⟨4, [], (batchF (xs.drop 4)).2.1, 0, []⟩ ∧ (bodyF 4 (xs.drop 4)).2.2 = (batchF (xs.drop 4)).2.2) ∧ RestOk W rv ((batchF (xs.drop 4)).2.2)) := fun h0 => by
      rw [body4]
      exact ⟨⟨by rw [← hcd]; exact h0, rfl, rfl⟩, (hok h0).2⟩
    clear hok hcd hX4 g2 gf2 g6 gf6
    dsimp only
    go_upto_region 31 with fail
    refine wp_world (fun V => blk V b2 = some (reqE 0 none 0 0 none 0 0 0 none 0 0) ∧ free V b2 = true ∧ blk V b6 = some (reqE 4 none 0 0 sa sn sc 0 none 0 0) ∧ Hid (W.Extends V) ∧ Hid (cd = 0 → ReqOk V B 4 none 0 0 sa sn sc 0 none 0 0 ⟨4, [], (batchF (xs.drop 4)).2.1, 0, []⟩)) ⟨?_, ?_, ?_, ?_, ?_⟩ ?_
    · rw [blk_put, if_neg e26]; exact v2
    · rw [free_put]; exact vf2
    · rw [blk_put, if_pos rfl, v6]; rfl
    · exact ext_put_new HE4.out hW6 _
    · exact fun h0 => ReqOk.put (HOk0.out h0) h6B
    clear v2 vf2 v6 vf6 HE4 HOk0 HE2
    rintro V ⟨v2, vf2, v6, HEV, HOk1⟩
    by_cases hcz : cd = 0
    · have HOk : Hid (ReqOk V B 4 none 0 0 sa sn sc 0 none 0 0 ⟨4, [], (batchF (xs.drop 4)).2.1, 0, []⟩) := HOk1.out hcz
      obtain ⟨hb1, ra, rc, rfl, _⟩ := HBo0.out hcz
      obtain ⟨rn, hrn⟩ : ∃ rn, rn = ((batchF (xs.drop 4)).2.2).length := ⟨_, rfl⟩
      rw [← hrn]
      have HRN : Hid (((batchF (xs.drop 4)).2.2).length = rn) := hrn.symm
      have HBo : Hid ((bodyF 4 (xs.drop 4)).1 = 0 ∧ (bodyF 4 (xs.drop 4)).2.1 = ⟨4, [], (batchF (xs.drop 4)).2.1, 0, []⟩ ∧ (bodyF 4 (xs.drop 4)).2.2 = (batchF (xs.drop 4)).2.2) := hb1
      clear HBo0 HOk1 HBd hb1 hrn
      subst hcz
      by_cases hre : rn = 0
      · have HQ : Hid (decF xs = (0, ⟨4, [], (batchF (xs.drop 4)).2.1, 0, []⟩)) := by
          show _ = _
          rw [HDF.out, fin_ok HBo.out.1 (by rw [HBo.out.2.2]; exact List.eq_nil_of_length_eq_zero (HRN.out.trans hre)), HBo.out.2.1]
        have hl0 : (rn : Int) = 0 := by omega
        have HF : Hid (DecPost W (0, ⟨4, [], (batchF (xs.drop 4)).2.1, 0, []⟩) (.returned (.tuple #[.agg (reqE 4 none 0 0 sa sn sc 0 none 0 0).toArray, .int .i64 0])) (put V b2 (reqE 4 none 0 0 sa sn sc 0 none 0 0))) := ⟨_, _, _, _, _, _, _, _, _, _, _, rfl, (HOk.out.put h2B).base hWB, ext_put_new HEV.out hW2 _⟩
        go_wp2_with fail
        refine ret_cell_tmp (C := reqE 4 none 0 0 sa sn sc 0 none 0 0) rfl rfl rfl ?_ (by kernel_rfl) (by rw [rq_len]; kernel_rfl) rfl (by rw [HQ.out]; exact HF.out)
        rw [blk_put, if_pos rfl, v2]; rfl
      · have HQ : Hid (decF xs = (6, Rq.zero)) := by
          show _ = _
          rw [HDF.out, fin_trail HBo.out.1 (by rw [HBo.out.2.2]; intro h; exact hre (HRN.out.symm.trans (congrArg List.length h)))]
        have hl0 : ¬ (rn : Int) = 0 := by omega
        go_wp2_with fail
        refine ret_cell_tmp (C := reqE 0 none 0 0 none 0 0 0 none 0 0) rfl rfl rfl ?_ (by kernel_rfl) (by rw [rq_len]; kernel_rfl) rfl (by rw [HQ.out]; exact (HF0 _).out (by first | exact ext_put_new (HEV.out) hW2 _ | exact extends_drewN (ext_put_new (HX0.out) hW2 _) _ | exact ext_put_new (extends_drewN HX0.out _) hW2 _) 6)
        first | (rw [blk_put, if_pos rfl, v2]; rfl) | (rw [blk_put, if_pos rfl, blk_drewN, v2]; rfl) | (rw [blk_drewN, blk_put, if_pos rfl, v2]; rfl)
    · skip
      have HQ : Hid (decF xs = (cd, Rq.zero)) := by
        show _ = _
        rw [HDF.out, fin_bad (by rw [HBd.out]; exact hcz), HBd.out]
      have hzb : (cd == 0) = false := by simp [hcz]
      go_wp2_with fail
      refine ret_cell_tmp (C := reqE 0 none 0 0 none 0 0 0 none 0 0) rfl rfl rfl ?_ (by kernel_rfl) (by rw [rq_len]; kernel_rfl) rfl (by rw [HQ.out]; exact (HF0 _).out (by first | exact ext_put_new (HEV.out) hW2 _ | exact extends_drewN (ext_put_new (HX0.out) hW2 _) _ | exact ext_put_new (extends_drewN HX0.out _) hW2 _) cd)
      first | (rw [blk_put, if_pos rfl, v2]; rfl) | (rw [blk_put, if_pos rfl, blk_drewN, v2]; rfl) | (rw [blk_drewN, blk_put, if_pos rfl, v2]; rfl)
  · have HDF : Hid (decF xs = finF (bodyF 6 (xs.drop 4))) := HDF.out
    have g6 : blk W2 b6 = some (reqE 6 none 0 0 none 0 0 0 none 0 0) := g6
    by_cases hn4 : n = 4
    · have HQ : Hid (decF xs = (5, Rq.zero)) := by
        show _ = _
        rw [HDF.out, show xs.drop 4 = [] from List.eq_nil_of_length_eq_zero (by rw [HXL.out]; omega), body6n]; rfl
      have hl0 : ((n - 4 : Nat) : Int) = 0 := by omega
      go_wp2_with fail
      refine ret_cell_tmp (C := reqE 0 none 0 0 none 0 0 0 none 0 0) rfl rfl rfl ?_ (by kernel_rfl) (by rw [rq_len]; kernel_rfl) rfl (by rw [HQ.out]; exact (HF0 _).out (by first | exact ext_put_new (HE2.out) hW2 _ | exact extends_drewN (ext_put_new (HX0.out) hW2 _) _ | exact ext_put_new (extends_drewN HX0.out _) hW2 _) 5)
      first | (rw [blk_put, if_pos rfl, g2]; rfl) | (rw [blk_put, if_pos rfl, blk_drewN, g2]; rfl) | (rw [blk_drewN, blk_put, if_pos rfl, g2]; rfl)
    have hl0 : ¬ ((n - 4 : Nat) : Int) = 0 := by omega
    have hl1 : (0 : Int) < ((n - 4 : Nat) : Int) := by omega
    obtain ⟨x, hx⟩ : ∃ x, xs[4]? = some x := ⟨_, List.getElem?_eq_getElem (by have := HXL.out; rw [List.length_drop] at this; omega)⟩
    obtain ⟨pr, hpr⟩ : ∃ k, k = x.toNat := ⟨_, rfl⟩
    have hp8 : pr < 256 := by rw [hpr]; exact x.toNat_lt
    have hd : xs.drop 4 = x :: xs.drop 5 := drop_at hx
    have HD : Hid (xs.drop 4 = x :: xs.drop 5) := hd
    have HXp : Hid (pr = x.toNat) := hpr
    have HA4' : Hid (Bs W A4 (n - 4) (x :: xs.drop 5)) := by rw [← hd]; exact HA4.out
    obtain ⟨b9, o9, C9, rfl, hC9, hCl9, v9⟩ := HA4'.out.nat (i := 0) (x := x) rfl
    rw [← hpr, Nat.add_zero] at v9
    have hb9 := blk_lt hC9
    have e96 : ¬ b9 = b6 := by omega
    have hC2 : blk W2 b9 = some C9 := (HE2.out.blk hb9).trans hC9
    have w9 : IntKind.i64.wrap (pr : Int) = (pr : Int) := by rw [IntKind.wrap_i64]; omega
    clear hx hpr hC9 hd
    go_upto_region 30 with fail
    refine wp_world (fun V3 => blk V3 b2 = some (reqE 0 none 0 0 none 0 0 0 none 0 0) ∧ free V3 b2 = true ∧ blk V3 b6 = some (reqE 6 none 0 0 none 0 0 (pr : Int) none 0 0) ∧ free V3 b6 = true ∧ Hid (W.Extends V3) ∧ B ≤ V3.heap.size) ⟨?_, ?_, ?_, ?_, ?_, ?_⟩ ?_
    · rw [blk_put, if_neg e26]; exact g2
    · rw [free_put]; exact gf2
    · rw [blk_put, if_pos rfl, g6]; rfl
    · rw [free_put]; exact gf6
    · exact ext_put_new HE2.out hW6 _
    · rw [size_put]; exact hBV
    clear g2 gf2 g6 gf6 HE2 hC2
    rintro V3 ⟨q2, qf2, q6, qf6, HE3, hB3⟩
    have hsl : ∀ V, (sliceOp 31 (.slice (some ⟨b9, o9, none⟩) (n - 4) (c - 4)) (some (.int .i64 1)) none none).run Tryz.prog V = .ok (.value (.slice (cutA (some ⟨b9, o9, none⟩) 1 (c - 4)) (n - 4 - 1) (c - 4 - 1))) V := fun V => Tryz.sl27lo V (some ⟨b9, o9, none⟩) (n - 4) (c - 4) 1 (by omega)
    obtain ⟨A5, hA5⟩ : ∃ A5, A5 = cutA (some ⟨b9, o9, none⟩) 1 (c - 4) := ⟨_, rfl⟩
    simp only [← hA5] at hsl
    have HA5 : Hid (Bs W A5 (n - 4 - 1) (xs.drop 5)) := by
      have := HA4'.out.cut (l := 1) (k := n - 4 - 1) (cap := c - 4) (by omega) (by omega)
      rw [← hA5] at this
      simp only [List.drop_succ_cons, List.drop_zero] at this
      rw [List.take_of_length_le (by have := HA4'.out.1; simp at this; rw [List.length_drop]; omega)] at this
      exact this
    clear hA5
    go_wp2_with fail
    refine (cutSlots_any W V3 A5 (n - 4 - 1) (c - 4 - 1) (by omega) (by omega) (by omega) (xs.drop 5) HA5.out HE3.out).mono ?_
    rintro e W4 ⟨sa, sn, sc, rv, rfl, hok, hX4⟩
    obtain ⟨cd, hcd⟩ : ∃ cd, cd = (slotsF (xs.drop 5)).1 := ⟨_, rfl⟩
    rw [← hcd]
    rw [← hcd] at hok
    have v2 : blk W4 b2 = some (reqE 0 none 0 0 none 0 0 0 none 0 0) := (hX4.blk (blk_lt q2)).trans q2
    have vf2 : free W4 b2 = true := (free_of_heap (hX4.block b2 (blk_lt q2))).trans qf2
    have v6 : blk W4 b6 = some (reqE 6 none 0 0 none 0 0 (pr : Int) none 0 0) := (hX4.blk (blk_lt q6)).trans q6
    have vf6 : free W4 b6 = true := (free_of_heap (hX4.block b6 (blk_lt q6))).trans qf6
    have HE4 : Hid (W.Extends W4) := HE3.out.trans hX4
    have HOk0 : Hid (cd = 0 → ReqOk W4 B 6 none 0 0 none 0 0 (pr : Int) sa sn sc ⟨6, [], [], (pr : Int), (slotsF (xs.drop 5)).2.1⟩) := fun h0 => ⟨rfl, ownsNil _ _ _ _, ⟨[], ownsNil _ _ _ _, ⟨rfl, fun i d it h => by simp at h⟩⟩, rfl, row_base (hok h0).1 hB3⟩
    have HBd : Hid ((bodyF 6 (xs.drop 4)).1 = cd) := by show _ = _; rw [HD.out, body6c, hcd]
    have HBo0 : Hid (cd = 0 → ((bodyF 6 (xs.drop 4)).1 = 0 ∧ (bodyF 6 (xs.drop 4)).2.1 = ⟨6, [], [], (pr : Int), (slotsF (xs.drop 5)).2.1⟩ ∧ (bodyF 6 (xs.drop 4)).2.2 = (slotsF (xs.drop 5)).2.2) ∧ RestOk W rv ((slotsF (xs.drop 5)).2.2)) := fun h0 => by
      rw [HD.out, body6c, ← HXp.out]
      exact ⟨⟨by rw [← hcd]; exact h0, rfl, rfl⟩, (hok h0).2⟩
    clear hok hcd hX4 q2 qf2 q6 qf6 HE3
    dsimp only
    go_upto_region 31 with fail
    refine wp_world (fun V => blk V b2 = some (reqE 0 none 0 0 none 0 0 0 none 0 0) ∧ free V b2 = true ∧ blk V b6 = some (reqE 6 none 0 0 none 0 0 (pr : Int) sa sn sc) ∧ Hid (W.Extends V) ∧ Hid (cd = 0 → ReqOk V B 6 none 0 0 none 0 0 (pr : Int) sa sn sc ⟨6, [], [], (pr : Int), (slotsF (xs.drop 5)).2.1⟩)) ⟨?_, ?_, ?_, ?_, ?_⟩ ?_
    · rw [blk_put, if_neg e26]; exact v2
    · rw [free_put]; exact vf2
    · rw [blk_put, if_pos rfl, v6]; rfl
    · exact ext_put_new HE4.out hW6 _
    · exact fun h0 => ReqOk.put (HOk0.out h0) h6B
    clear v2 vf2 v6 vf6 HE4 HOk0
    rintro V ⟨v2, vf2, v6, HEV, HOk1⟩
    by_cases hcz : cd = 0
    · have HOk : Hid (ReqOk V B 6 none 0 0 none 0 0 (pr : Int) sa sn sc ⟨6, [], [], (pr : Int), (slotsF (xs.drop 5)).2.1⟩) := HOk1.out hcz
      obtain ⟨hb1, ra, rc, rfl, _⟩ := HBo0.out hcz
      obtain ⟨rn, hrn⟩ : ∃ rn, rn = ((slotsF (xs.drop 5)).2.2).length := ⟨_, rfl⟩
      rw [← hrn]
      have HRN : Hid (((slotsF (xs.drop 5)).2.2).length = rn) := hrn.symm
      have HBo : Hid ((bodyF 6 (xs.drop 4)).1 = 0 ∧ (bodyF 6 (xs.drop 4)).2.1 = ⟨6, [], [], (pr : Int), (slotsF (xs.drop 5)).2.1⟩ ∧ (bodyF 6 (xs.drop 4)).2.2 = (slotsF (xs.drop 5)).2.2) := hb1
      clear HBo0 HOk1 HBd hb1 hrn
      subst hcz
      by_cases hre : rn = 0
      · have HQ : Hid (decF xs = (0, ⟨6, [], [], (pr : Int), (slotsF (xs.drop 5)).2.1⟩)) := by
          show _ = _
          rw [HDF.out, fin_ok HBo.out.1 (by rw [HBo.out.2.2]; exact List.eq_nil_of_length_eq_zero (HRN.out.trans hre)), HBo.out.2.1]
        have hl0 : (rn : Int) = 0 := by omega
        have HF : Hid (DecPost W (0, ⟨6, [], [], (pr : Int), (slotsF (xs.drop 5)).2.1⟩) (.returned (.tuple #[.agg (reqE 6 none 0 0 none 0 0 (pr : Int) sa sn sc).toArray, .int .i64 0])) (put V b2 (reqE 6 none 0 0 none 0 0 (pr : Int) sa sn sc))) := ⟨_, _, _, _, _, _, _, _, _, _, _, rfl, (HOk.out.put h2B).base hWB, ext_put_new HEV.out hW2 _⟩
        go_wp2_with fail
        refine ret_cell_tmp (C := reqE 6 none 0 0 none 0 0 (pr : Int) sa sn sc) rfl rfl rfl ?_ (by kernel_rfl) (by rw [rq_len]; kernel_rfl) rfl (by rw [HQ.out]; exact HF.out)
        rw [blk_put, if_pos rfl, v2]; rfl
      · have HQ : Hid (decF xs = (6, Rq.zero)) := by
          show _ = _
          rw [HDF.out, fin_trail HBo.out.1 (by rw [HBo.out.2.2]; intro h; exact hre (HRN.out.symm.trans (congrArg List.length h)))]
        have hl0 : ¬ (rn : Int) = 0 := by omega
        go_wp2_with fail
        refine ret_cell_tmp (C := reqE 0 none 0 0 none 0 0 0 none 0 0) rfl rfl rfl ?_ (by kernel_rfl) (by rw [rq_len]; kernel_rfl) rfl (by rw [HQ.out]; exact (HF0 _).out (by first | exact ext_put_new (HEV.out) hW2 _ | exact extends_drewN (ext_put_new (HX0.out) hW2 _) _ | exact ext_put_new (extends_drewN HX0.out _) hW2 _) 6)
        first | (rw [blk_put, if_pos rfl, v2]; rfl) | (rw [blk_put, if_pos rfl, blk_drewN, v2]; rfl) | (rw [blk_drewN, blk_put, if_pos rfl, v2]; rfl)
    · skip
      have HQ : Hid (decF xs = (cd, Rq.zero)) := by
        show _ = _
        rw [HDF.out, fin_bad (by rw [HBd.out]; exact hcz), HBd.out]
      have hzb : (cd == 0) = false := by simp [hcz]
      go_wp2_with fail
      refine ret_cell_tmp (C := reqE 0 none 0 0 none 0 0 0 none 0 0) rfl rfl rfl ?_ (by kernel_rfl) (by rw [rq_len]; kernel_rfl) rfl (by rw [HQ.out]; exact (HF0 _).out (by first | exact ext_put_new (HEV.out) hW2 _ | exact extends_drewN (ext_put_new (HX0.out) hW2 _) _ | exact ext_put_new (extends_drewN HX0.out _) hW2 _) cd)
      first | (rw [blk_put, if_pos rfl, v2]; rfl) | (rw [blk_put, if_pos rfl, blk_drewN, v2]; rfl) | (rw [blk_drewN, blk_put, if_pos rfl, v2]; rfl)
end Go.Proofs.Qxb6500787aGreat
