import Derived.Test.Qxb6500785aStepB
import Derived.Test.Qxb6500785aStream
import Derived.Test.Qxb6500785aApart
import Derived.Test.Qxb6500785aKnown
import Derived.Deep.RegionHeld
import Derived.Deep.CutRange
import Derived.Laws.ResultCell
import Derived.Laws.Rows
set_option linter.unusedSimpArgs false
set_option linter.unusedVariables false
namespace Go.Proofs.Qxb6500785a
open Go.RowKit Go.Blk
attribute [local go_sem ↓] execOp_load execOp_store execOp_alloc
attribute [local go_sem] Try.ld24 Try.st24 Try.ld5 Try.st5 Try.ld3 Try.st3 Try.ld27 Try.st27 Try.ld32 Try.st32 Try.ld33 Try.st33 Try.ld4 Try.st4 Try.ld41 Try.st41 Try.ld40 Try.st40 Try.ld42 Try.st42 Try.ld47 Try.st47 Try.ld48 Try.st48 Try.ld57 Try.st57 Try.ld58 Try.st58 Try.ld2 Try.st2 Try.ld9 Try.st9 Try.ld12 Try.st12 Try.ld21 Try.st21 Try.ld22 Try.st22 Try.ld46 Try.st46 Try.ld83 Try.st83 Try.ld95 Try.st95 Try.ld99 Try.st99 Try.ld106 Try.st106 Try.ld108 Try.st108 Try.ld134 Try.st134 Try.ld25 Try.st25 Try.ld26 Try.st26 Try.ld34 Try.st34 Try.ld31 Try.st31 Try.ld30 Try.st30 Try.ld74 Try.st74 Try.ld96 Try.st96 Try.ld101 Try.st101 Try.ld115 Try.st115 Try.ld116 Try.st116 Try.ld120 Try.st120 Try.ld121 Try.st121 Try.ld122 Try.st122 Try.ld29 Try.st29 Try.ld36 Try.st36 Try.ld38 Try.st38 Try.ld44 Try.st44 Try.ld50 Try.st50 Try.ld60 Try.st60 Try.ld110 Try.st110 Try.al25 Try.al26 Try.al34 Try.al31 Try.al30 Try.al74 Try.al96 Try.al101 Try.al115 Try.al116 Try.al120 Try.al121 Try.al122 Try.al29 Try.al36 Try.al38 Try.al44 Try.al50 Try.al60 Try.al110
attribute [local go_sem] Hasher.length_enc Hasher.ok_enc Hasher.all_get Hasher.all_set Hasher.state_get Hasher.state_set Hasher.block_get Hasher.block_set Hasher.fill_get Hasher.fill_set Hasher.length_get Hasher.length_set GLog.length_enc GLog.ok_enc GLog.all_get GLog.all_set GLog.entries_get GLog.entries_set GLog.shelves_get GLog.shelves_set GLog.first_get GLog.first_set GLog.second_get GLog.second_set GLog.found_get GLog.found_set Player.length_enc Player.ok_enc Player.all_get Player.all_set Player.hand_get Player.hand_set Player.aside_get Player.aside_set Player.prev_get Player.prev_set Player.last_get Player.last_set Player.log_get Player.log_set Player.hand_state_get Player.hand_state_set Player.hand_block_get Player.hand_block_set Player.hand_fill_get Player.hand_fill_set Player.hand_length_get Player.hand_length_set Player.aside_state_get Player.aside_state_set Player.aside_block_get Player.aside_block_set Player.aside_fill_get Player.aside_fill_set Player.aside_length_get Player.aside_length_set Player.log_entries_get Player.log_entries_set Player.log_shelves_get Player.log_shelves_set Player.log_first_get Player.log_first_set Player.log_second_get Player.log_second_set Player.log_found_get Player.log_found_set GOp.length_enc GOp.ok_enc GOp.all_get GOp.all_set GOp.kind_get GOp.kind_set GOp.data_get GOp.data_set GOp.cut_get GOp.cut_set GOp.n_get GOp.n_set GOp.b_get GOp.b_set GOp.v_get GOp.v_set GOp.dom_get GOp.dom_set GOp.sum_get GOp.sum_set Answer.length_enc Answer.ok_enc Answer.all_get Answer.all_set Answer.code_get Answer.code_set Answer.sum_get Answer.sum_set Answer.len_get Answer.len_set Answer.mark_get Answer.mark_set Answer.noted_get Answer.noted_set Answer.collided_get Answer.collided_set GState.length_enc GState.ok_enc GState.all_get GState.all_set GState.hand_get GState.hand_set GState.aside_get GState.aside_set GState.prev_get GState.prev_set GState.last_get GState.last_set GState.inputs_get GState.inputs_set GState.sums_get GState.sums_set GState.collided_get GState.collided_set GState.older_get GState.older_set GState.younger_get GState.younger_set Noted.length_enc Noted.ok_enc Noted.all_get Noted.all_set Noted.input_get Noted.input_set Noted.sum_get Noted.sum_set
attribute [local go_sem] size_put size_ext blk_put free_put blk_alloc free_alloc blk_drew free_drew blk_ext free_ext lookOr_some putOr_some segAt_some cellAt_some storeIn_some put_put put_alloc_new length_arr ok_arr_u8 ok_arr_u32 ok_arr_u64 ok_arr_i64 ok_arr_sl cellsV_agg cellsV_int cellsV_bool cellsV_string cellsV_pointer cellsV_slice cellsV_sl ok_int ok_bool ok_string ok_pointer ok_slice ok_sl toList_arr seg_arr set_arr nth_splice nth_splice0 seg_splice seg_splice0 splice_splice splice_splice0 length_splice_if
attribute [local go_sem] w32_and w32_or w32_xor w32_add w32_or8 w32_not w8_and w8_or w8_xor w32_shr2 w32_shl2 w32_shr3 w32_shl3 w32_shr6 w32_shl6 w32_shr7 w32_shl7 w32_shr8 w32_shl8 w32_shr10 w32_shl10 w32_shr11 w32_shl11 w32_shr13 w32_shl13 w32_shr14 w32_shl14 w32_shr15 w32_shl15 w32_shr16 w32_shl16 w32_shr17 w32_shl17 w32_shr18 w32_shl18 w32_shr19 w32_shl19 w32_shr21 w32_shl21 w32_shr22 w32_shl22 w32_shr24 w32_shl24 w32_shr25 w32_shl25 w32_shr26 w32_shl26 w32_shr30 w32_shl30 w8_shl24 w8_shl16 w8_shl8 v32_add v32_byte w32_byte0 v8_shl24 v8_shl16 v8_shl8 v32_shr2 v32_shl2 v32_shr3 v32_shl3 v32_shr6 v32_shl6 v32_shr7 v32_shl7 v32_shr8 v32_shl8 v32_shr10 v32_shl10 v32_shr11 v32_shl11 v32_shr13 v32_shl13 v32_shr14 v32_shl14 v32_shr15 v32_shl15 v32_shr16 v32_shl16 v32_shr17 v32_shl17 v32_shr18 v32_shl18 v32_shr19 v32_shl19 v32_shr21 v32_shl21 v32_shr22 v32_shl22 v32_shr24 v32_shl24 v32_shr25 v32_shl25 v32_shr26 v32_shl26 v32_shr30 v32_shl30
attribute [local go_sem ↓] execOp_build
attribute [local go_sem] run_build_kv run_build_iv nth_arr_u32 put_arr_u32 nth_arr_u8 put_arr_u8 v32_of8 blk_drewN free_drewN put_drewN put_drew blk_raw free_raw
attribute [local go_sem ↓] execOp_slice execOp_copy
attribute [local go_sem] Try.sl40lo Try.sl40hi Try.sl26lo Try.sl26hi Try.sl26 Try.sl96lo Try.sl96hi Try.sl96 Try.sl31lo Try.sl31 Try.sl120 Try.sl121 Try.sl121lo Try.sl121hi Try.cp40 copyOr_some copyIn_some srcB_drew srcB_drewN srcB_raw length_bv one_bv
attribute [local go_sem] Hasher.length_zero
attribute [local go_sem] Try.cpv copyOrV_some
attribute [local go_sem ↓] execOp_index execOp_convert execOp_box execOp_convert9
attribute [local go_sem] index_hex box_run conv_bytes eq31
attribute [local go_sem] build31
theorem LogOk.zero (B : Nat) (W : World) : LogOk B W GLog.zero [] (fun _ => []) := by
  refine ⟨⟨rfl, .inl ⟨rfl, rfl⟩⟩, fun n hn => by simp at hn, fun s h => ⟨rfl, .inl ⟨?_, rfl⟩⟩, fun s h j hj => by simp at hj, fun s h => Nat.le_refl _, fun s t hs ht hst k hk => ?_⟩
  · simp [GLog.zero, Sl.val]
  · simp [GLog.zero, Sl.val, Value.ownBlock] at hk
theorem PlayAt.prev_at {w : World} {bp : Nat} {p : Player} {mh ma : List UInt8} {ns : List Noted} {W : World} (h : PlayAt w bp p mh ma ns W) : BytesAt W.heap.size W (some ⟨bp, 148, none⟩) 32 32 p.prev.toList := by
  refine ⟨by simp, Nat.le_refl _, ⟨by omega, by omega⟩, fun _ => ⟨bp, 148, _, rfl, Nat.ne_of_lt h.lt, h.blk, by rw [Player.length_enc]; omega, ?_⟩⟩
  rw [Player.prev_get]
  unfold arr bv
  rfl
theorem PlayAt.last_at {w : World} {bp : Nat} {p : Player} {mh ma : List UInt8} {ns : List Noted} {W : World} (h : PlayAt w bp p mh ma ns W) : BytesAt W.heap.size W (some ⟨bp, 180, none⟩) 32 32 p.last.toList := by
  refine ⟨by simp, Nat.le_refl _, ⟨by omega, by omega⟩, fun _ => ⟨bp, 180, _, rfl, Nat.ne_of_lt h.lt, h.blk, by rw [Player.length_enc]; omega, ?_⟩⟩
  rw [Player.last_get]
  unfold arr bv
  rfl
theorem PlayAt.new {w w2 : World} {p0 : Player} (he : Ext w w2) (h1 : Rep p0.hand []) (h2 : Rep p0.aside []) (hl : p0.log = GLog.zero) : PlayAt w w2.heap.size p0 [] [] [] (w2.alloc (.cells p0.enc.toArray 38)) :=
  ⟨by rw [blk_alloc, if_pos rfl], by rw [free_alloc, if_pos rfl], h1, h2, ⟨fun _ => [], by rw [hl]; exact LogOk.zero _ _⟩, he.size, extends_alloc (ext_Ext he) _⟩
set_option maxRecDepth 100000 in
theorem frame55 (f : Nat → Value) : frameN 55 f = #[f 0, f 1, f 2, f 3, f 4, f 5, f 6, f 7, f 8, f 9, f 10, f 11, f 12, f 13, f 14, f 15, f 16, f 17, f 18, f 19, f 20, f 21, f 22, f 23, f 24, f 25, f 26, f 27, f 28, f 29, f 30, f 31, f 32, f 33, f 34, f 35, f 36, f 37, f 38, f 39, f 40, f 41, f 42, f 43, f 44, f 45, f 46, f 47, f 48, f 49, f 50, f 51, f 52, f 53, f 54] := by kernel_rfl
def ntI (w : World) (a : Option Addr) (len cap bp : Nat) (f : Nat → Value) (W : World) : Prop :=
  f 0 = .slice a len cap ∧ f 13 = .slice a len cap ∧ f 14 = .int .i64 (len : Nat) ∧ f 3 = .pointer (some ⟨bp, 0, none⟩) ∧ ∃ (i : Nat) (p : Player) (mh ma : List UInt8) (ns : List Noted), i ≤ len ∧ f 15 = .int .i64 (i : Nat) ∧
    ns.length ≤ i ∧ mh.length ≤ cap16 i ∧ ma.length ≤ cap16 i ∧ Hid (PlayAt w bp p mh ma ns W)
set_option maxRecDepth 20000 in
set_option maxHeartbeats 2000000 in
theorem node_walk (w : World) (a : Option Addr) (len cap : Nat) (g : Nat → GOp) (dt : Nat → List UInt8) (hS : ScriptAt w a len cap g dt) :
    Calls Try.prog 7 #[.slice a len cap] w fun e w' => e = .returned (.bool true) ∧ w.Extends w' := by
  have HS : Hid (ScriptAt w a len cap g dt) := hS
  clear hS
  go_enter Try.func7, Try.ntmps7
  go_wp2_with fail
  refine (small_any w a len cap g dt HS.out).mono ?_
  rintro e w1 ⟨⟨r, rfl, hr⟩, hw1⟩
  subst hw1
  cases r with
  | false =>
    go_wp2_with fail
    go_ret
    exact ⟨rfl, ext_Ext (Ext.refl _)⟩
  | true =>
    obtain ⟨hl, hsm⟩ := hr rfl
    have HSM : Hid (∀ i, i < len → (g i).data.len ≤ 65536) := hsm
    clear hr hsm
    go_wp2_with fail
    refine (newPlayer_any w1).mono ?_
    rintro e w2 ⟨⟨p0, rfl, hr1, hr2, _, _, hlg⟩, hE2⟩
    have HPL : Hid (PlayAt w1 w2.heap.size p0 [] [] [] (w2.alloc (.cells p0.enc.toArray 38))) := PlayAt.new hE2 hr1 hr2 hlg
    clear hr1 hr2 hE2 hlg
    go_wp2_with fail
    refine wp_loop_f 55 (ntI w1 a len cap w2.heap.size) (fun f _ => len - (intOf (f 15)).toNat) rfl ?_ ?_
    · exact ⟨rfl, rfl, rfl, rfl, 0, p0, [], [], [], by omega, rfl, by simp, by simp, by simp, HPL⟩
    obtain ⟨w, hw⟩ : ∃ w, w = w1 := ⟨_, rfl⟩
    rw [← hw] at HS ⊢
    obtain ⟨bp, hbp⟩ : ∃ bp, bp = w2.heap.size := ⟨_, rfl⟩
    rw [← hbp]
    clear HPL hbp
    intro F W hrel
    obtain ⟨h0, hr, hln, h3, i, p, mh, ma, ns, hi, hiv, hnsi, hlh, hls, HP0⟩ := hrel
    have HIV : Hid (F 15 = .int .i64 (i : Nat)) := hiv
    rw [frame55, h0, hr, hln, h3, hiv]
    clear h0 hr hln h3 hiv
    have hcap := cap16_succ i
    have hcapl := cap16_le (i + 1) (by omega)
    by_cases hil : i < len
    · have hSW := HS.out.mono HP0.out.ext
      obtain ⟨b, o, C, rfl, hC, hlen, hseg⟩ := hSW.2.2.2 (by omega)
      have hsx := hseg i hil
      have HXw := HS.out.bytes hil (HSM.out i hil)
      obtain ⟨op, hop⟩ : ∃ op, op = g i := ⟨_, rfl⟩
      rw [← hop] at hsx HXw
      have HX0 : Hid (BytesAt w.heap.size w op.data.a op.data.len op.data.cap (dt i)) := HXw
      have HDL : Hid (op.data.len ≤ 65536) := by show _ ≤ _; rw [hop]; exact HSM.out i hil
      clear hSW hseg hop HXw
      have q0 : (0 : Int) ≤ (i : Int) := by omega
      have q1 : (i : Int) < (len : Int) := by omega
      have q2 : ((i : Int)).toNat = i := by omega
      have q3 : o + i * 39 + 39 ≤ C.length := by omega
      go_upto_region 7 with fail
      refine wp_world (fun W1 => blk W1 W.heap.size = some op.enc ∧ W.heap.size < W1.heap.size ∧ Hid (PlayAt w bp p mh ma ns W1) ∧ Hid (TyAt W1 W.heap.size 44)) ⟨?_, ?_, HP0.out.grow (extends_alloc (ext_Ext (Ext.refl _)) _), ?_⟩ ?_
      · rw [blk_alloc, if_pos rfl]
      · rw [World.size_alloc]; omega
      · show TyAt _ _ _
        unfold TyAt
        rw [heap_alloc, if_pos rfl]
        exact ⟨_, _, rfl⟩
      have HBPW : Hid (bp < W.heap.size) := HP0.out.lt
      clear hC HP0 hsx
      rintro W1 ⟨hbo, hbol, HP1, HTY⟩
      obtain ⟨bo, hboe⟩ : ∃ bo, bo = W.heap.size := ⟨_, rfl⟩
      rw [← hboe] at hbo hbol HBPW HTY ⊢
      clear hboe
      go_wp2_with fail
      refine (step_any w W1 bp p op mh ma ns (dt i) HP1.out HX0.out HDL.out (by omega) (by omega)).mono ?_
      rintro e W2 ⟨ans, p', mh', ma', ns', rfl, hP2, hns2, hgr, hans, hbs⟩
      have HBO2 : Hid (blk W2 bo = some op.enc) := (blk_of_heap (hbs bo hbol (by have := HBPW.out; omega) (HTY.out.not_log (by decide)))).trans hbo
      have hbol2 : bo < W2.heap.size := blk_lt HBO2.out
      have HP2 : Hid (PlayAt w bp p' mh' ma' ns' W2) := hP2
      have hb2 := hP2.blk
      have hns3 : ns'.length ≤ i + 1 := by omega
      have hg1 : mh'.length ≤ cap16 (i + 1) := by have := (hgr (cap16 i) hlh hls).1; omega
      have hg2 : ma'.length ≤ cap16 (i + 1) := by have := (hgr (cap16 i) hlh hls).2; omega
      have HANS : Hid (op.kind = 13 → ans.code = 0 → parseH (dt i) = some ans.sum) := hans
      clear hP2 hgr hans HP1 hbs HTY
      have hpv := HP2.out.prev_at.src (Nat.le_refl 32)
      rw [List.take_of_length_le (by simp)] at hpv
      clear hbo hbol HBPW hbol2 HBO2
      go_upto_region 10 with (at_builtin; refine wpList_append rfl _ _ rfl W2.heap.size (.slice none 0 0) [] p'.prev.toList (some ⟨bp, 148, none⟩) 32 32 rfl rfl (by simp) (OwnB.nil _ _) (by rw [Vector.length_toList]; exact hpv) (Nat.le_refl _) (by simp) ?_; intro v1 W3 ho1 hg1x)
      rw [List.nil_append] at ho1
      have he1 : W2.Extends W3 := (OwnB.nil W2.heap.size W2).grow (Nat.le_refl _) (ext_Ext (Ext.refl W2)) hg1x
      have HP3 : Hid (PlayAt w bp p' mh' ma' ns' W3) := HP2.out.grow he1
      clear hg1x hpv
      have hlv := HP3.out.last_at.src (Nat.le_refl 32)
      rw [List.take_of_length_le (by simp)] at hlv
      go_upto_region 11 with (at_builtin; refine wpList_append rfl _ _ rfl W2.heap.size v1 p'.prev.toList p'.last.toList (some ⟨bp, 180, none⟩) 32 32 rfl rfl (by simp) ho1 (by rw [Vector.length_toList]; exact hlv) he1.size (by simp) ?_; intro v2 W4 ho2 hg2x)
      have he2 : W2.Extends W4 := ho1.grow (Nat.le_refl _) he1 hg2x
      have HP4 : Hid (PlayAt w bp p' mh' ma' ns' W4) := HP2.out.grow he2
      obtain ⟨a4, c4, rfl, hX4⟩ := own_bytes ho2 (by simp)
      have h64 : (p'.prev.toList ++ p'.last.toList).length = 64 := by simp
      rw [h64] at hX4 ⊢
      have HX4 : Hid (BytesAt W4.heap.size W4 a4 64 c4 (p'.prev.toList ++ p'.last.toList)) := hX4
      have hb4 := HP4.out.blk
      clear hg2x hlv ho1 he1 ho2 he2 hX4 HP2 HP3 hb2 h64
      go_wp2_with fail
      refine (tagged_ok W4 W4.heap.size 3 a4 64 c4 _ HX4.out (by decide) (by omega)).mono ?_
      rintro e W5 ⟨rfl, he5⟩
      rw [show sha (3 :: (p'.prev.toList ++ p'.last.toList)) = nodeD p'.prev p'.last from rfl]
      obtain ⟨nd, hnd⟩ : ∃ nd, nd = nodeD p'.prev p'.last := ⟨_, rfl⟩
      rw [← hnd]
      have HND : Hid (nd = nodeD p'.prev p'.last) := hnd
      have HP5 : Hid (PlayAt w bp p' mh' ma' ns' (W5.alloc (.cells (arr u8v nd).toArray 31))) := HP4.out.grow (extends_alloc (ext_Ext he5) _)
      have HX5 : Hid (BytesAt (W5.heap.size + 1) (W5.alloc (.cells (arr u8v nd).toArray 31)) a4 64 c4 (p'.prev.toList ++ p'.last.toList)) := HX4.out.at_new (fun k hk => (extends_alloc (ext_Ext he5) _).blk hk) (by have := he5.size; omega)
      clear he5 hnd HP4 HX4 hb4
      go_upto_region 12 with fail
      refine wp_world (fun W6 => blk W6 bp = some p'.enc ∧ blk W6 W5.heap.size = some (arr u8v nd) ∧ W5.heap.size < W6.heap.size ∧ Hid (PlayAt w bp p' mh' ma' ns' W6) ∧ Hid (BytesAt (W5.heap.size + 1) W6 a4 64 c4 (p'.prev.toList ++ p'.last.toList))) ⟨HP5.out.blk, by rw [blk_alloc, if_pos rfl], by rw [World.size_alloc]; omega, HP5, HX5⟩ ?_
      obtain ⟨b7, hb7⟩ : ∃ b7, b7 = W5.heap.size := ⟨_, rfl⟩
      rw [← hb7]
      clear HP5 HX5 hb7
      rintro W6 ⟨hb6, h76, hs6, HP6, HX6⟩
      go_wp2_with fail
      refine wp_region_held_drew (S := fun W' => (blk W' bp = some p'.enc ∧ blk W' b7 = some (arr u8v nd)) ∧ True) (by kernel_rfl) ⟨⟨hb6, h76⟩, trivial⟩ (fun hHeld => ?_)
      refine wpAnyH_take (i := 0) (oi := ⟨_, _, _, _, _, _⟩) (v := ?_) rfl (by kernel_rfl) (by kernel_rfl) (by kernel_rfl) (fun _ _ _ h => h) (Or.inl ⟨by rfl, ?_⟩) (by assumption) ?_
      rotate_left 1
      · intro W' hSw
        obtain ⟨⟨hS1, hS3⟩, hS2⟩ := hSw
        go_simp
        try with_reducible rfl
      try simp only [Act.put, List.setIfInBounds_toArray, List.set_cons_zero, List.set_cons_succ]
      refine wpAnyH_take (i := 1) (oi := ⟨_, _, _, _, _, _⟩) (v := ?_) rfl (by kernel_rfl) (by kernel_rfl) (by kernel_rfl) (fun _ _ _ h => h) (Or.inl ⟨by rfl, ?_⟩) (by assumption) ?_
      rotate_left 1
      · intro W' hSw
        obtain ⟨⟨hS1, hS3⟩, hS2⟩ := hSw
        go_simp
        try with_reducible rfl
      try simp only [Act.put, List.setIfInBounds_toArray, List.set_cons_zero, List.set_cons_succ]
      refine wpAnyH_take (i := 2) (oi := ⟨_, _, _, _, _, _⟩) (v := ?_) rfl (by kernel_rfl) (by kernel_rfl) (by kernel_rfl) (fun _ _ _ h => h) (Or.inl ⟨by rfl, ?_⟩) (by assumption) ?_
      rotate_left 1
      · intro W' hSw
        obtain ⟨⟨hS1, hS3⟩, hS2⟩ := hSw
        go_simp
        try with_reducible rfl
      try simp only [Act.put, List.setIfInBounds_toArray, List.set_cons_zero, List.set_cons_succ]
      refine wpAnyH_take (i := 3) (oi := ⟨_, _, _, _, _, _⟩) (v := ?_) rfl (by kernel_rfl) (by kernel_rfl) (by kernel_rfl) (fun _ _ _ h => h) (Or.inl ⟨by rfl, ?_⟩) (by assumption) ?_
      rotate_left 1
      · intro W' hSw
        obtain ⟨⟨hS1, hS3⟩, hS2⟩ := hSw
        go_simp
        try with_reducible rfl
      try simp only [Act.put, List.setIfInBounds_toArray, List.set_cons_zero, List.set_cons_succ]
      refine wpAnyH_take (i := 4) (oi := ⟨_, _, _, _, _, _⟩) (v := ?_) rfl (by kernel_rfl) (by kernel_rfl) (by kernel_rfl) (fun _ _ _ h => h) (Or.inl ⟨by rfl, ?_⟩) (by assumption) ?_
      rotate_left 1
      · intro W' hSw
        obtain ⟨⟨hS1, hS3⟩, hS2⟩ := hSw
        go_simp
        try with_reducible rfl
      try simp only [Act.put, List.setIfInBounds_toArray, List.set_cons_zero, List.set_cons_succ]
      refine wpAnyH_take (i := 5) (oi := ⟨_, _, _, _, _, _⟩) (v := ?_) rfl (by kernel_rfl) (by kernel_rfl) (by kernel_rfl) (fun _ _ _ h => h) (Or.inl ⟨by rfl, ?_⟩) (by assumption) ?_
      rotate_left 1
      · intro W' hSw
        obtain ⟨⟨hS1, hS3⟩, hS2⟩ := hSw
        go_simp
        try with_reducible rfl
      try simp only [Act.put, List.setIfInBounds_toArray, List.set_cons_zero, List.set_cons_succ]
      refine wpAnyH_take (i := 6) (oi := ⟨_, _, _, _, _, _⟩) (v := ?_) rfl (by kernel_rfl) (by kernel_rfl) (by kernel_rfl) (fun _ _ _ h => h) (Or.inl ⟨by rfl, ?_⟩) (by assumption) ?_
      rotate_left 1
      · intro W' hSw
        obtain ⟨⟨hS1, hS3⟩, hS2⟩ := hSw
        go_simp
        try with_reducible rfl
      try simp only [Act.put, List.setIfInBounds_toArray, List.set_cons_zero, List.set_cons_succ]
      refine wpAnyH_take (i := 7) (oi := ⟨_, _, _, _, _, _⟩) (v := ?_) rfl (by kernel_rfl) (by kernel_rfl) (by kernel_rfl) (fun _ _ _ h => h) (Or.inl ⟨by rfl, ?_⟩) (by assumption) ?_
      rotate_left 1
      · intro W' hSw
        obtain ⟨⟨hS1, hS3⟩, hS2⟩ := hSw
        go_simp
        try with_reducible rfl
      try simp only [Act.put, List.setIfInBounds_toArray, List.set_cons_zero, List.set_cons_succ]
      refine wpAnyH_ready (rs := [8]) (by kernel_rfl) (by simp) ?_
      refine AllReadyH.cons (o := ⟨_, _, _, _, _, _⟩) rfl (fun K hK => ?_) AllReadyH.nil
      go_simp
      refine (node_any W6.drew p'.prev p'.last).mono ?_
      rintro e W7 ⟨rfl, he7⟩
      rw [← HND.out]
      have hx7 : W6.Extends W7 := (extends_drew (ext_Ext (Ext.refl W6))).trans (ext_Ext he7)
      have HP7 : Hid (PlayAt w bp p' mh' ma' ns' W7) := HP6.out.grow hx7
      have hb7 := HP7.out.blk
      have h77 := (hx7.blk hs6).trans h76
      have HX7 : Hid (BytesAt W7.heap.size W7 a4 64 c4 (p'.prev.toList ++ p'.last.toList)) := HX6.out.at_new (fun k hk => hx7.blk hk) hx7.size
      dsimp only
      refine hK.out _ _ ?_ (fun hHeld => ?_)
      · exact ⟨⟨hb7, h77⟩, trivial⟩
      clear hK K
      clear he7 hx7 HP6 HX6 hb6 h76 hs6
      try simp only [Act.put, List.setIfInBounds_toArray, List.set_cons_zero, List.set_cons_succ]
      refine wpAnyH_take (i := 9) (oi := ⟨_, _, _, _, _, _⟩) (v := ?_) rfl (by kernel_rfl) (by kernel_rfl) (by kernel_rfl) (fun _ _ _ h => h) (Or.inl ⟨by rfl, ?_⟩) (by assumption) ?_
      rotate_left 1
      · intro W' hSw
        obtain ⟨⟨hS1, hS3⟩, hS2⟩ := hSw
        go_simp
        try with_reducible rfl
      try simp only [Act.put, List.setIfInBounds_toArray, List.set_cons_zero, List.set_cons_succ]
      refine wpAnyH_take (i := 10) (oi := ⟨_, _, _, _, _, _⟩) (v := ?_) rfl (by kernel_rfl) (by kernel_rfl) (by kernel_rfl) (fun _ _ _ h => h) (Or.inl ⟨by rfl, ?_⟩) (by assumption) ?_
      rotate_left 1
      · intro W' hSw
        obtain ⟨⟨hS1, hS3⟩, hS2⟩ := hSw
        go_simp
        try with_reducible rfl
      try simp only [Act.put, List.setIfInBounds_toArray, List.set_cons_zero, List.set_cons_succ]
      refine wpAnyH_done (by kernel_rfl) ?_ _
      go_wp2_with fail
      refine (dnodeInput_any W7 p'.prev p'.last).mono ?_
      rintro e W8 ⟨v8, rfl, ho8, he8⟩
      obtain ⟨a8, c8, rfl, hX8⟩ := own_bytes ho8 (by simp)
      have h65 : (3 :: (p'.prev.toList ++ p'.last.toList)).length = 65 := by simp
      rw [h65] at hX8 ⊢
      have HX8 : Hid (BytesAt W8.heap.size W8 a8 65 c8 (3 :: (p'.prev.toList ++ p'.last.toList))) := hX8
      have HP8 : Hid (PlayAt w bp p' mh' ma' ns' W8) := HP7.out.grow he8
      have HX9 : Hid (BytesAt W8.heap.size W8 a4 64 c4 (p'.prev.toList ++ p'.last.toList)) := HX7.out.grow he8
      clear ho8 he8 hX8 HP7 HX7 hb7 h77
      go_wp2_with fail
      refine (taggedInput_any W8 W8.heap.size 3 a4 64 c4 _ HX9.out (by omega)).mono ?_
      rintro e W9 ⟨v9, rfl, ho9, he9⟩
      obtain ⟨a9, c9, rfl, hX9⟩ := own_bytes ho9 (by simp)
      rw [h65] at hX9 ⊢
      have HXa : Hid (BytesAt W9.heap.size W9 a9 65 c9 (3 :: (p'.prev.toList ++ p'.last.toList))) := hX9
      have HXb : Hid (BytesAt W9.heap.size W9 a8 65 c8 (3 :: (p'.prev.toList ++ p'.last.toList))) := HX8.out.grow he9
      have HP9 : Hid (PlayAt w bp p' mh' ma' ns' W9) := HP8.out.grow he9
      clear ho9 he9 hX9 HP8 HX8 HX9
      go_wp2_with fail
      refine (same_any W9 W9.heap.size W9.heap.size a8 a9 65 65 c8 c9 _ _ HXb.out HXa.out).mono ?_
      rintro e W10 ⟨rfl, n10, rfl⟩
      rw [decide_eq_true (rfl : (3 :: (p'.prev.toList ++ p'.last.toList)) = _)]
      have HPa : Hid (PlayAt w bp p' mh' ma' ns' (W9.drewN n10)) := HP9.out.grow (extends_drewN (ext_Ext (Ext.refl W9)) n10)
      clear HP9 HXa HXb h65
      go_wp2_with fail
      refine ⟨rfl, rfl, ?_, ?_⟩
      · refine ⟨rfl, rfl, rfl, rfl, i + 1, p', mh', ma', ns', by omega, ?_, hns3, hg1, hg2, HPa⟩
        show Value.int .i64 _ = _
        go_num
      · show len - (intOf (Value.int .i64 _)).toNat < len - (intOf (F 15)).toNat
        rw [HIV.out]
        simp [intOf]; omega
    · obtain rfl : i = len := by omega
      go_wp2_with fail
      go_ret
      exact ⟨rfl, by rw [← hw]; exact HP0.out.ext⟩
end Go.Proofs.Qxb6500785a
