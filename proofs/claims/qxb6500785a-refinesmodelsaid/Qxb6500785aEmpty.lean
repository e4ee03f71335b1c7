import Derived.Test.Qxb6500785aDom
import Derived.Test.Qxb6500785aKnown
import Derived.Deep.RegionHeld
import Derived.Deep.CutRange
import Derived.Laws.ResultCell
import Derived.Laws.Rows
set_option linter.unusedSimpArgs false
set_option linter.unusedVariables false
namespace Go.Proofs.Qxb6500785a
open Go.RowKit Go.Blk
attribute [local go_sem ↓] execOp_load execOp_store execOp_alloc
attribute [local go_sem] Try.ld24 Try.st24 Try.ld5 Try.st5 Try.ld3 Try.st3 Try.ld27 Try.st27 Try.ld32 Try.st32 Try.ld33 Try.st33 Try.ld4 Try.st4 Try.ld41 Try.st41 Try.ld40 Try.st40 Try.ld42 Try.st42 Try.ld47 Try.st47 Try.ld48 Try.st48 Try.ld57 Try.st57 Try.ld58 Try.st58 Try.ld2 Try.st2 Try.ld9 Try.st9 Try.ld12 Try.st12 Try.ld21 Try.st21 Try.ld22 Try.st22 Try.ld46 Try.st46 Try.ld83 Try.st83 Try.ld95 Try.st95 Try.ld99 Try.st99 Try.ld106 Try.st106 Try.ld108 Try.st108 Try.ld134 Try.st134 Try.ld25 Try.st25 Try.ld26 Try.st26 Try.ld34 Try.st34 Try.ld31 Try.st31 Try.ld30 Try.st30 Try.ld74 Try.st74 Try.ld96 Try.st96 Try.ld101 Try.st101 Try.ld115 Try.st115 Try.ld116 Try.st116 Try.ld120 Try.st120 Try.ld121 Try.st121 Try.ld122 Try.st122 Try.ld29 Try.st29 Try.ld36 Try.st36 Try.ld38 Try.st38 Try.ld44 Try.st44 Try.ld50 Try.st50 Try.ld60 Try.st60 Try.ld110 Try.st110 Try.al25 Try.al26 Try.al34 Try.al31 Try.al30 Try.al74 Try.al96 Try.al101 Try.al115 Try.al116 Try.al120 Try.al121 Try.al122 Try.al29 Try.al36 Try.al38 Try.al44 Try.al50 Try.al60 Try.al110
attribute [local go_sem] Hasher.length_enc Hasher.ok_enc Hasher.all_get Hasher.all_set Hasher.state_get Hasher.state_set Hasher.block_get Hasher.block_set Hasher.fill_get Hasher.fill_set Hasher.length_get Hasher.length_set GLog.length_enc GLog.ok_enc GLog.all_get GLog.all_set GLog.entries_get GLog.entries_set GLog.shelves_get GLog.shelves_set GLog.first_get GLog.first_set GLog.second_get GLog.second_set GLog.found_get GLog.found_set Player.length_enc Player.ok_enc Player.all_get Player.all_set Player.hand_get Player.hand_set Player.aside_get Player.aside_set Player.prev_get Player.prev_set Player.last_get Player.last_set Player.log_get Player.log_set Player.hand_state_get Player.hand_state_set Player.hand_block_get Player.hand_block_set Player.hand_fill_get Player.hand_fill_set Player.hand_length_get Player.hand_length_set Player.aside_state_get Player.aside_state_set Player.aside_block_get Player.aside_block_set Player.aside_fill_get Player.aside_fill_set Player.aside_length_get Player.aside_length_set Player.log_entries_get Player.log_entries_set Player.log_shelves_get Player.log_shelves_set Player.log_first_get Player.log_first_set Player.log_second_get Player.log_second_set Player.log_found_get Player.log_found_set GOp.length_enc GOp.ok_enc GOp.all_get GOp.all_set GOp.kind_get GOp.kind_set GOp.data_get GOp.data_set GOp.cut_get GOp.cut_set GOp.n_get GOp.n_set GOp.b_get GOp.b_set GOp.v_get GOp.v_set GOp.dom_get GOp.dom_set GOp.sum_get GOp.sum_set Answer.length_enc Answer.ok_enc Answer.all_get Answer.all_set Answer.code_get Answer.code_set Answer.sum_get Answer.sum_set Answer.len_get Answer.len_set Answer.mark_get Answer.mark_set Answer.noted_get Answer.noted_set Answer.collided_get Answer.collided_set GState.length_enc GState.ok_enc GState.all_get GState.all_set GState.hand_get GState.hand_set GState.aside_get GState.aside_set GState.prev_get GState.prev_set GState.last_get GState.last_set GState.inputs_get GState.inputs_set GState.sums_get GState.sums_set GState.collided_get GState.collided_set GState.older_get GState.older_set GState.younger_get GState.younger_set Noted.length_enc Noted.ok_enc Noted.all_get Noted.all_set Noted.input_get Noted.input_set Noted.sum_get Noted.sum_set
attribute [local go_sem] size_put size_ext blk_put free_put blk_alloc free_alloc blk_drew free_drew blk_ext free_ext lookOr_some putOr_some segAt_some cellAt_some storeIn_some put_put put_alloc_new length_arr ok_arr_u8 ok_arr_u32 ok_arr_u64 ok_arr_i64 ok_arr_sl cellsV_agg cellsV_int cellsV_bool cellsV_string cellsV_pointer cellsV_slice cellsV_sl ok_int ok_bool ok_string ok_pointer ok_slice ok_sl toList_arr seg_arr set_arr nth_splice nth_splice0 seg_splice seg_splice0 splice_splice splice_splice0 length_splice_if
attribute [local go_sem] w32_and w32_or w32_xor w32_add w32_or8 w32_not w8_and w8_or w8_xor w32_shr2 w32_shl2 w32_shr3 w32_shl3 w32_shr6 w32_shl6 w32_shr7 w32_shl7 w32_shr8 w32_shl8 w32_shr10 w32_shl10 w32_shr11 w32_shl11 w32_shr13 w32_shl13 w32_shr14 w32_shl14 w32_shr15 w32_shl15 w32_shr16 w32_shl16 w32_shr17 w32_shl17 w32_shr18 w32_shl18 w32_shr19 w32_shl19 w32_shr21 w32_shl21 w32_shr22 w32_shl22 w32_shr24 w32_shl24 w32_shr25 w32_shl25 w32_shr26 w32_shl26 w32_shr30 w32_shl30 w8_shl24 w8_shl16 w8_shl8 v32_add v32_byte w32_byte0 v8_shl24 v8_shl16 v8_shl8 v32_shr2 v32_shl2 v32_shr3 v32_shl3 v32_shr6 v32_shl6 v32_shr7 v32_shl7 v32_shr8 v32_shl8 v32_shr10 v32_shl10 v32_shr11 v32_shl11 v32_shr13 v32_shl13 v32_shr14 v32_shl14 v32_shr15 v32_shl15 v32_shr16 v32_shl16 v32_shr17 v32_shl17 v32_shr18 v32_shl18 v32_shr19 v32_shl19 v32_shr21 v32_shl21 v32_shr22 v32_shl22 v32_shr24 v32_shl24 v32_shr25 v32_shl25 v32_shr26 v32_shl26 v32_shr30 v32_shl30
attribute [local go_sem ↓] execOp_build
attribute [local go_sem] run_build_kv run_build_iv nth_arr_u32 put_arr_u32 nth_arr_u8 put_arr_u8 v32_of8 blk_drewN free_drewN put_drewN put_drew blk_raw free_raw
attribute [local go_sem ↓] execOp_slice execOp_copy
attribute [local go_sem] Try.sl40lo Try.sl40hi Try.sl26lo Try.sl26hi Try.sl26 Try.sl96lo Try.sl96hi Try.sl96 Try.sl31lo Try.sl31 Try.sl120 Try.sl121 Try.sl121lo Try.sl121hi Try.cp40 copyOr_some copyIn_some srcB_drew srcB_drewN srcB_raw length_bv one_bv
attribute [local go_sem] Hasher.length_zero
attribute [local go_sem] Try.cpv copyOrV_some
attribute [local go_sem ↓] execOp_index execOp_convert execOp_box execOp_convert9
attribute [local go_sem] index_hex box_run conv_bytes eq31
theorem OwnB.base {b0 b1 : Nat} {w : World} {v : Value} {xs : List UInt8} (h : OwnB b1 w v xs) (hb : b0 ≤ b1) : OwnB b0 w v xs := by
  obtain ⟨h1, h2 | ⟨g, cap, cur, e1, e2, e3⟩⟩ := h
  · exact ⟨h1, .inl h2⟩
  · exact ⟨h1, .inr ⟨g, cap, cur, e1, Nat.le_trans hb e2, e3⟩⟩
attribute [local go_sem] build31
def emptyR : Nat → Vector UInt8 32
  | 0 => sha [4]
  | h + 1 => nodeD (emptyR h) (emptyR h)
set_option maxRecDepth 100000 in
theorem frame27 (f : Nat → Value) : frameN 27 f = #[f 0, f 1, f 2, f 3, f 4, f 5, f 6, f 7, f 8, f 9, f 10, f 11, f 12, f 13, f 14, f 15, f 16, f 17, f 18, f 19, f 20, f 21, f 22, f 23, f 24, f 25, f 26] := by kernel_rfl
theorem nil_bytes (av : Nat) (w : World) : BytesAt av w none 0 0 [] := ⟨rfl, Nat.le_refl _, ⟨by omega, by omega⟩, fun h => absurd rfl h⟩
def emI (w : World) (br h : Nat) (f : Nat → Value) (W : World) : Prop :=
  f 0 = .int .i64 (h : Nat) ∧ f 2 = .pointer (some ⟨w.heap.size, 0, none⟩) ∧ f 4 = .pointer (some ⟨br, 0, none⟩) ∧ ∃ i : Nat, i ≤ h ∧ f 6 = .int .i64 (i : Nat) ∧
    blk W w.heap.size = some (arr u8v (Vector.replicate 32 0)) ∧ free W w.heap.size = true ∧ blk W br = some (arr u8v (emptyR i)) ∧ free W br = true ∧ Hid (Ext w W)
set_option maxRecDepth 20000 in
set_option maxHeartbeats 2000000 in
theorem empty_ok (w : World) (h : Nat) (hh : h ≤ 10) :
    Calls Try.prog 37 #[.int .i64 (h : Nat)] w fun e w' => e = .returned (.tuple #[.agg (arr u8v (emptyR h)).toArray, .int .i64 0]) ∧ Ext w w' := by
  have g1 : ¬ (h : Int) < 0 := by omega
  have g2 : ¬ (10 : Int) < (h : Int) := by omega
  go_enter Try.func37, Try.ntmps37
  go_wp2_with fail
  refine (tagged_ok _ 0 4 none 0 0 [] (nil_bytes _ _) (by decide) (by omega)).mono ?_
  rintro e w2 ⟨rfl, hE⟩
  have hb0 : blk w2 w.heap.size = some (arr u8v (Vector.replicate 32 0)) := by
    rw [hE.blk (by rw [World.size_alloc]; omega), blk_alloc, if_pos rfl]
  have hf0 : free w2 w.heap.size = true := by
    rw [hE.free (by rw [World.size_alloc]; omega), free_alloc, if_pos rfl]
  have hsz : w.heap.size + 1 ≤ w2.heap.size := by have := hE.size; rw [World.size_alloc] at this; exact this
  have HE : Hid (Ext w w2) := ((Ext.refl w).alloc _).trans hE
  clear hE
  obtain ⟨d0, hd0⟩ : ∃ d0, d0 = sha [4] := ⟨_, rfl⟩
  rw [← hd0]
  go_wp2_with fail
  refine wp_loop_f 27 (emI w w2.heap.size h) (fun f _ => h - (intOf (f 6)).toNat) rfl ?_ ?_
  · refine ⟨rfl, rfl, rfl, 0, by omega, rfl, ?_, ?_, ?_, ?_, HE.out.alloc _⟩
    · rw [blk_alloc, if_neg (by omega)]; exact hb0
    · rw [free_alloc, if_neg (by omega)]; exact hf0
    · rw [blk_alloc, if_pos rfl]; rfl
    · rw [free_alloc, if_pos rfl]
  obtain ⟨br, hbr⟩ : ∃ br, br = w2.heap.size := ⟨_, rfl⟩
  rw [← hbr] at hsz ⊢
  clear hb0 hf0 HE hd0 hbr
  intro F W hrel
  obtain ⟨h0, h2, h4, i, hi, h6, hb, hf, hr, hrf, HE⟩ := hrel
  have H6 : Hid (F 6 = .int .i64 (i : Nat)) := h6
  rw [frame27, h0, h2, h4, h6]
  clear h0 h2 h4 h6
  have hbrl := blk_lt hr
  have hne : ¬ br = w.heap.size := by omega
  have hne2 : ¬ w.heap.size = br := by omega
  by_cases hih : i < h
  · go_wp2_with fail
    refine (node_any _ (emptyR i) (emptyR i)).mono ?_
    rintro e w3 ⟨rfl, hE3⟩
    have hb3 := (hE3.blk (b := w.heap.size) (by omega)).trans hb
    have hf3 := (hE3.free (b := w.heap.size) (by omega)).trans hf
    have hr3 := (hE3.blk hbrl).trans hr
    have hrf3 := (hE3.free hbrl).trans hrf
    have HE3 : Hid (Ext w w3) := HE.out.trans hE3
    clear hE3 hb hf hr hrf HE
    go_wp2_with fail
    refine ⟨rfl, rfl, ?_, ?_⟩
    · refine ⟨rfl, rfl, rfl, i + 1, by omega, ?_, ?_, ?_, ?_, ?_, HE3.out.put_new _ _ (by omega)⟩
      · show Value.int .i64 _ = _
        go_num
      · rw [blk_put, if_neg hne2]; exact hb3
      · rw [free_put]; exact hf3
      · rw [blk_put, if_pos rfl, hr3]; rfl
      · rw [free_put]; exact hrf3
    · show h - (intOf (Value.int .i64 _)).toNat < h - (intOf (F 6)).toNat
      rw [H6.out]
      simp [intOf]; omega
  · obtain rfl : i = h := by omega
    go_wp2_with fail
    refine ret_cell_tmp rfl rfl rfl (by rw [blk_put, if_pos rfl, hb]; rfl) (by kernel_rfl) (by rw [length_arr]; kernel_rfl) rfl ?_
    exact ⟨rfl, HE.out.put_new _ _ (Nat.le_refl _)⟩
set_option maxRecDepth 20000 in
set_option maxHeartbeats 2000000 in
theorem empty_bad (w : World) (h : Int) (hh : h < 0 ∨ 10 < h) :
    Calls Try.prog 37 #[.int .i64 h] w fun e w' => e = .returned (.tuple #[.agg (arr u8v (Vector.replicate 32 (0 : UInt8))).toArray, .int .i64 4]) ∧ Ext w w' := by
  by_cases g1 : h < 0
  · go_enter Try.func37, Try.ntmps37
    go_wp2_with fail
    refine ret_cell_tmp (C := arr u8v (Vector.replicate 32 (0 : UInt8))) rfl rfl rfl (by rw [blk_alloc, if_pos rfl]) (by kernel_rfl) (by rw [length_arr]; kernel_rfl) rfl ?_
    exact ⟨rfl, (Ext.refl w).alloc _⟩
  · have g2 : 10 < h := by omega
    clear hh
    go_enter Try.func37, Try.ntmps37
    go_wp2_with fail
    refine ret_cell_tmp (C := arr u8v (Vector.replicate 32 (0 : UInt8))) rfl rfl rfl (by rw [blk_alloc, if_pos rfl]) (by kernel_rfl) (by rw [length_arr]; kernel_rfl) rfl ?_
    exact ⟨rfl, (Ext.refl w).alloc _⟩
set_option maxRecDepth 20000 in
set_option maxHeartbeats 2000000 in
theorem input_any (w : World) (av : Nat) (x : UInt8) (a : Option Addr) (len cap : Nat) (xs : List UInt8) (hX : BytesAt av w a len cap xs) (hroom : len ≤ 1000000000) :
    Calls Try.prog 23 #[.int .u8 (w8 x), .slice a len cap] w fun e w' => ∃ v, e = .returned v ∧ OwnB w.heap.size w' v (x :: xs) ∧ w.Extends w' := by
  have HX : Hid (BytesAt av w a len cap xs) := hX
  clear hX
  have hn := HX.out.1
  go_enter Try.func23, Try.ntmps23
  go_upto_region 3 with (at_builtin; refine wpList_append rfl _ _ rfl w.heap.size (.slice none 0 0) [] [x] (some ⟨w.heap.size, 0, none⟩) 1 1 rfl rfl rfl (OwnB.nil _ _) (srcB_new w x 5) (by rw [World.size_alloc]; omega) (by simp) ?_; intro v1 w1 ho1 hg1)
  rw [List.nil_append] at ho1
  have HE1 : Hid (w.Extends w1) := (OwnB.nil w.heap.size _).grow (Nat.le_refl _) (extends_alloc (ext_Ext (Ext.refl w)) _) hg1
  clear hg1
  have hX1 : BytesAt w1.heap.size w1 a len cap xs := HX.out.at_new (fun b hb => HE1.out.blk hb) HE1.out.size
  have hsrc := hX1.src (Nat.le_refl len)
  rw [List.take_of_length_le (by omega)] at hsrc
  clear hX1
  go_upto_region 4 with (at_builtin; refine wpList_append rfl _ _ rfl w.heap.size v1 [x] xs a len cap rfl rfl hn.symm ho1 (by rw [hn]; exact hsrc) HE1.out.size (by simp; omega) ?_; intro v2 w2 ho2 hg2)
  have HE2 : Hid (w.Extends w2) := ho1.grow (Nat.le_refl _) HE1.out hg2
  have HO2 : Hid (OwnB w.heap.size w2 v2 (x :: xs)) := ho2
  clear hg2 ho1 HE1 hsrc ho2
  go_wp2_with fail
  go_ret
  exact ⟨v2, rfl, HO2.out, HE2.out⟩
set_option maxRecDepth 20000 in
set_option maxHeartbeats 2000000 in
theorem nodeInput_any (w : World) (l r : Vector UInt8 32) :
    Calls Try.prog 24 #[.agg (arr u8v l).toArray, .agg (arr u8v r).toArray] w fun e w' => ∃ v, e = .returned v ∧ OwnB w.heap.size w' v (3 :: (l.toList ++ r.toList)) ∧ w.Extends w' := by
  go_enter Try.func24, Try.ntmps24
  go_upto_region 2 with fail
  refine wp_world (fun W => blk W w.heap.size = some (arr u8v l) ∧ blk W (w.heap.size + 1) = some (arr u8v r) ∧ w.heap.size + 2 ≤ W.heap.size ∧ Hid (w.Extends W)) ⟨?_, ?_, ?_, extends_alloc (extends_alloc (ext_Ext (Ext.refl w)) _) _⟩ ?_
  · rw [blk_alloc, if_neg (by simp only [World.size_alloc]; omega), blk_alloc, if_pos rfl]
  · rw [blk_alloc, if_pos (by simp only [World.size_alloc])]
  · simp only [World.size_alloc]; omega
  rintro W ⟨hl, hr, hsz, HE⟩
  have hls := (digest_at W l W.heap.size w.heap.size hl (by omega)).src (Nat.le_refl 32)
  rw [List.take_of_length_le (by simp)] at hls
  go_upto_region 3 with (at_builtin; refine wpList_append rfl _ _ rfl (w.heap.size + 2) (.slice none 0 0) [] l.toList (some ⟨w.heap.size, 0, none⟩) 32 32 rfl rfl (by simp) (OwnB.nil _ _) (by rw [Vector.length_toList]; exact hls) hsz (by simp) ?_; intro v1 w1 ho1 hg1)
  rw [List.nil_append] at ho1
  have hk1 : ∀ i, i < W.heap.size → w1.heap[i]? = W.heap[i]? := fun i hi => hg1.block i hi (by simp [Value.ownBlock])
  have hr1 : blk w1 (w.heap.size + 1) = some (arr u8v r) := (blk_of_heap (hk1 _ (by omega))).trans hr
  have HE1 : Hid (w.Extends w1) := (OwnB.nil (w.heap.size + 2) _).grow (by omega) HE.out hg1
  have hsz1 : w.heap.size + 2 ≤ w1.heap.size := Nat.le_trans hsz hg1.size
  clear hg1 hk1 hls HE hl hr
  have hrs := (digest_at w1 r w1.heap.size (w.heap.size + 1) hr1 (by omega)).src (Nat.le_refl 32)
  rw [List.take_of_length_le (by simp)] at hrs
  go_upto_region 4 with (at_builtin; refine wpList_append rfl _ _ rfl (w.heap.size + 2) v1 l.toList r.toList (some ⟨w.heap.size + 1, 0, none⟩) 32 32 rfl rfl (by simp) ho1 (by rw [Vector.length_toList]; exact hrs) hsz1 (by simp) ?_; intro v2 w2 ho2 hg2)
  have HE2 : Hid (w.Extends w2) := ho1.grow (by omega) HE1.out hg2
  obtain ⟨a2, c2, rfl, hX2⟩ := own_bytes ho2 (by simp)
  have HX2 : Hid (BytesAt w2.heap.size w2 a2 (l.toList ++ r.toList).length c2 (l.toList ++ r.toList)) := hX2
  clear hg2 ho1 HE1 hrs ho2 hr1 hsz1 hX2
  have h64 : (l.toList ++ r.toList).length = 64 := by simp
  rw [h64] at HX2 ⊢
  go_wp2_with fail
  refine (input_any w2 w2.heap.size 3 a2 64 c2 _ HX2.out (by omega)).mono ?_
  rintro e w3 ⟨v3, rfl, ho3, he3⟩
  have HO3 : Hid (OwnB w.heap.size w3 v3 (3 :: (l.toList ++ r.toList))) := ho3.base HE2.out.size
  have HE3 : Hid (w.Extends w3) := HE2.out.trans he3
  clear ho3 he3
  go_wp2_with fail
  go_ret
  exact ⟨v3, rfl, HO3.out, HE3.out⟩
set_option maxRecDepth 20000 in
set_option maxHeartbeats 2000000 in
theorem mnode_any (w : World) (l r : Vector UInt8 32) :
    Calls Try.prog 73 #[.agg (arr u8v l).toArray, .agg (arr u8v r).toArray] w fun e w' => e = .returned (.agg (arr u8v (nodeD l r)).toArray) ∧ w.Extends w' := by
  go_enter Try.func73, Try.ntmps73
  have n1 : ¬ w.heap.size = w.heap.size + 1 := by omega
  have n2 : ¬ w.heap.size = w.heap.size + 1 + 1 := by omega
  have n3 : ¬ w.heap.size + 1 = w.heap.size + 1 + 1 := by omega
  go_wp2_with fail
  refine (nodeInput_any _ l r).mono ?_
  rintro e w2 ⟨v, rfl, ho, he⟩
  obtain ⟨a2, c2, rfl, hX2⟩ := own_bytes ho (by simp)
  have h65 : (3 :: (l.toList ++ r.toList)).length = 65 := by simp
  have HX2 : Hid (BytesAt w2.heap.size w2 a2 65 c2 (3 :: (l.toList ++ r.toList))) := by rw [← h65]; exact hX2
  have hb2 : blk w2 (w.heap.size + 1 + 1) = some (arr u8v (Vector.replicate 32 0)) := by
    rw [he.blk (by simp only [World.size_alloc]; omega), blk_alloc, if_pos (by simp only [World.size_alloc])]
  have hf2 : free w2 (w.heap.size + 1 + 1) = true := by
    rw [free_of_heap (he.block _ (by simp only [World.size_alloc]; omega)), free_alloc, if_pos (by simp only [World.size_alloc])]
  have hsz : w.heap.size + 3 ≤ w2.heap.size := by have := he.size; simp only [World.size_alloc] at this; omega
  have HE2 : Hid (w.Extends w2) := (extends_alloc (extends_alloc (extends_alloc (ext_Ext (Ext.refl w)) _) _) _).trans he
  rw [h65]
  clear he ho hX2
  go_wp2_with fail
  refine (msum_any w2 w2.heap.size a2 65 c2 _ HX2.out (by omega)).mono ?_
  rintro e w3 ⟨rfl, he3⟩
  have hb3 := (he3.blk (b := w.heap.size + 1 + 1) (by omega)).trans hb2
  have hf3 := (free_of_heap (he3.block (w.heap.size + 1 + 1) (by omega))).trans hf2
  have HE3 : Hid (w.Extends w3) := HE2.out.trans he3
  rw [show sha (3 :: (l.toList ++ r.toList)) = nodeD l r from rfl]
  clear he3 HE2 hb2 hf2 HX2
  go_wp2_with fail
  refine ret_cell rfl rfl (by rw [blk_put, if_pos rfl, hb3]; rfl) (by kernel_rfl) (by rw [length_arr]; kernel_rfl) rfl ?_
  exact ⟨rfl, extends_put HE3.out _ _ (by omega)⟩
set_option maxRecDepth 20000 in
set_option maxHeartbeats 2000000 in
theorem mempty_any : ∀ (h : Nat) (w : World), h ≤ 10 →
    Calls Try.prog 38 #[.int .i64 (h : Nat)] w fun e w' => e = .returned (.agg (arr u8v (emptyR h)).toArray) ∧ w.Extends w' := by
  intro h
  induction h with
  | zero =>
    intro w _
    rw [show (.int .i64 ((0 : Nat) : Int) : Value) = .int .i64 0 from rfl]
    go_enter Try.func38, Try.ntmps38
    go_wp2_with fail
    refine (input_any _ 0 4 none 0 0 [] (nil_bytes _ _) (by omega)).mono ?_
    rintro e w2 ⟨v, rfl, ho, he⟩
    obtain ⟨a2, c2, rfl, hX2⟩ := own_bytes ho (by simp)
    have HX2 : Hid (BytesAt w2.heap.size w2 a2 1 c2 [4]) := hX2
    have hb2 : blk w2 w.heap.size = some (arr u8v (Vector.replicate 32 0)) := by
      rw [he.blk (by simp only [World.size_alloc]; omega), blk_alloc, if_pos rfl]
    have hf2 : free w2 w.heap.size = true := by
      rw [free_of_heap (he.block _ (by simp only [World.size_alloc]; omega)), free_alloc, if_pos rfl]
    have hsz : w.heap.size + 1 ≤ w2.heap.size := by have := he.size; simp only [World.size_alloc] at this; omega
    have HE2 : Hid (w.Extends w2) := (extends_alloc (ext_Ext (Ext.refl w)) _).trans he
    rw [show [(4 : UInt8)].length = 1 from rfl]
    clear he ho hX2
    go_wp2_with fail
    refine (msum_any w2 w2.heap.size a2 1 c2 _ HX2.out (by omega)).mono ?_
    rintro e w3 ⟨rfl, he3⟩
    have hb3 := (he3.blk (b := w.heap.size) (by omega)).trans hb2
    have hf3 := (free_of_heap (he3.block w.heap.size (by omega))).trans hf2
    have HE3 : Hid (w.Extends w3) := HE2.out.trans he3
    rw [show sha [4] = emptyR 0 from rfl]
    clear he3 HE2 hb2 hf2 HX2
    go_wp2_with fail
    refine ret_cell rfl rfl (by rw [blk_put, if_pos rfl, hb3]; rfl) (by kernel_rfl) (by rw [length_arr]; kernel_rfl) rfl ?_
    exact ⟨rfl, extends_put HE3.out _ _ (by omega)⟩
  | succ h ih =>
    intro w hh
    have g0 : ¬ ((h : Int) + 1 = 0) := by omega
    have g1 : IntKind.i64.wrap ((h : Int) + 1 - 1) = (h : Int) := by rw [wraps_i64 _ (by omega) (by omega)]; omega
    have HI : Hid (∀ (w : World), h ≤ 10 → Calls Try.prog 38 #[.int .i64 (h : Nat)] w fun e w' => e = .returned (.agg (arr u8v (emptyR h)).toArray) ∧ w.Extends w') := ih
    clear ih
    rw [show (.int .i64 ((h + 1 : Nat) : Int) : Value) = .int .i64 ((h : Int) + 1) by rw [Int.natCast_add]; rfl]
    go_enter Try.func38, Try.ntmps38
    go_wp2_with fail
    refine (HI.out _ (by omega)).mono ?_
    rintro e w2 ⟨rfl, he⟩
    have hb2 : blk w2 w.heap.size = some (arr u8v (Vector.replicate 32 0)) := by
      rw [he.blk (by simp only [World.size_alloc]; omega), blk_alloc, if_pos rfl]
    have hf2 : free w2 w.heap.size = true := by
      rw [free_of_heap (he.block _ (by simp only [World.size_alloc]; omega)), free_alloc, if_pos rfl]
    have hsz : w.heap.size + 1 ≤ w2.heap.size := by have := he.size; simp only [World.size_alloc] at this; omega
    have HE2 : Hid (w.Extends w2) := (extends_alloc (ext_Ext (Ext.refl w)) _).trans he
    clear he
    go_wp2_with fail
    refine (mnode_any _ (emptyR h) (emptyR h)).mono ?_
    rintro e w3 ⟨rfl, he3⟩
    have hb3 := (he3.blk (b := w.heap.size) (by simp only [World.size_alloc]; omega)).trans ((blk_alloc _ _ _ _).trans ((if_neg (by omega)).trans hb2))
    have hf3 := (free_of_heap (he3.block w.heap.size (by simp only [World.size_alloc]; omega))).trans ((free_alloc _ _ _ _).trans ((if_neg (by omega)).trans hf2))
    have HE3 : Hid (w.Extends w3) := (extends_alloc HE2.out _).trans he3
    rw [show nodeD (emptyR h) (emptyR h) = emptyR (h + 1) from rfl]
    clear he3 HE2 hb2 hf2
    go_wp2_with fail
    refine ret_cell rfl rfl (by rw [blk_put, if_pos rfl, hb3]; rfl) (by kernel_rfl) (by rw [length_arr]; kernel_rfl) rfl ?_
    exact ⟨rfl, extends_put HE3.out _ _ (by omega)⟩
end Go.Proofs.Qxb6500785a
