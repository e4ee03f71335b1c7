import Derived.Test.Qxb6500785aOwn2
import Derived.Test.Qxb6500785aKnown
import Derived.Deep.RegionHeld
import Derived.Deep.CutRange
import Derived.Laws.ResultCell
import Derived.Laws.Rows
set_option linter.unusedSimpArgs false
set_option linter.unusedVariables false
namespace Go.Proofs.Qxb6500785a
open Go.RowKit Go.Blk
attribute [local go_sem ↓] execOp_load execOp_store execOp_alloc
attribute [local go_sem] Try.ld24 Try.st24 Try.ld5 Try.st5 Try.ld3 Try.st3 Try.ld27 Try.st27 Try.ld32 Try.st32 Try.ld33 Try.st33 Try.ld4 Try.st4 Try.ld41 Try.st41 Try.ld40 Try.st40 Try.ld42 Try.st42 Try.ld47 Try.st47 Try.ld48 Try.st48 Try.ld57 Try.st57 Try.ld58 Try.st58 Try.ld2 Try.st2 Try.ld9 Try.st9 Try.ld12 Try.st12 Try.ld21 Try.st21 Try.ld22 Try.st22 Try.ld46 Try.st46 Try.ld83 Try.st83 Try.ld95 Try.st95 Try.ld99 Try.st99 Try.ld106 Try.st106 Try.ld108 Try.st108 Try.ld134 Try.st134 Try.ld25 Try.st25 Try.ld26 Try.st26 Try.ld34 Try.st34 Try.ld31 Try.st31 Try.ld30 Try.st30 Try.ld74 Try.st74 Try.ld96 Try.st96 Try.ld101 Try.st101 Try.ld115 Try.st115 Try.ld116 Try.st116 Try.ld120 Try.st120 Try.ld121 Try.st121 Try.ld122 Try.st122 Try.ld29 Try.st29 Try.ld36 Try.st36 Try.ld38 Try.st38 Try.ld44 Try.st44 Try.ld50 Try.st50 Try.ld60 Try.st60 Try.ld110 Try.st110 Try.al25 Try.al26 Try.al34 Try.al31 Try.al30 Try.al74 Try.al96 Try.al101 Try.al115 Try.al116 Try.al120 Try.al121 Try.al122 Try.al29 Try.al36 Try.al38 Try.al44 Try.al50 Try.al60 Try.al110
attribute [local go_sem] Hasher.length_enc Hasher.ok_enc Hasher.all_get Hasher.all_set Hasher.state_get Hasher.state_set Hasher.block_get Hasher.block_set Hasher.fill_get Hasher.fill_set Hasher.length_get Hasher.length_set GLog.length_enc GLog.ok_enc GLog.all_get GLog.all_set GLog.entries_get GLog.entries_set GLog.shelves_get GLog.shelves_set GLog.first_get GLog.first_set GLog.second_get GLog.second_set GLog.found_get GLog.found_set Player.length_enc Player.ok_enc Player.all_get Player.all_set Player.hand_get Player.hand_set Player.aside_get Player.aside_set Player.prev_get Player.prev_set Player.last_get Player.last_set Player.log_get Player.log_set Player.hand_state_get Player.hand_state_set Player.hand_block_get Player.hand_block_set Player.hand_fill_get Player.hand_fill_set Player.hand_length_get Player.hand_length_set Player.aside_state_get Player.aside_state_set Player.aside_block_get Player.aside_block_set Player.aside_fill_get Player.aside_fill_set Player.aside_length_get Player.aside_length_set Player.log_entries_get Player.log_entries_set Player.log_shelves_get Player.log_shelves_set Player.log_first_get Player.log_first_set Player.log_second_get Player.log_second_set Player.log_found_get Player.log_found_set GOp.length_enc GOp.ok_enc GOp.all_get GOp.all_set GOp.kind_get GOp.kind_set GOp.data_get GOp.data_set GOp.cut_get GOp.cut_set GOp.n_get GOp.n_set GOp.b_get GOp.b_set GOp.v_get GOp.v_set GOp.dom_get GOp.dom_set GOp.sum_get GOp.sum_set Answer.length_enc Answer.ok_enc Answer.all_get Answer.all_set Answer.code_get Answer.code_set Answer.sum_get Answer.sum_set Answer.len_get Answer.len_set Answer.mark_get Answer.mark_set Answer.noted_get Answer.noted_set Answer.collided_get Answer.collided_set GState.length_enc GState.ok_enc GState.all_get GState.all_set GState.hand_get GState.hand_set GState.aside_get GState.aside_set GState.prev_get GState.prev_set GState.last_get GState.last_set GState.inputs_get GState.inputs_set GState.sums_get GState.sums_set GState.collided_get GState.collided_set GState.older_get GState.older_set GState.younger_get GState.younger_set Noted.length_enc Noted.ok_enc Noted.all_get Noted.all_set Noted.input_get Noted.input_set Noted.sum_get Noted.sum_set
attribute [local go_sem] size_put size_ext blk_put free_put blk_alloc free_alloc blk_drew free_drew blk_ext free_ext lookOr_some putOr_some segAt_some cellAt_some storeIn_some put_put put_alloc_new length_arr ok_arr_u8 ok_arr_u32 ok_arr_u64 ok_arr_i64 ok_arr_sl cellsV_agg cellsV_int cellsV_bool cellsV_string cellsV_pointer cellsV_slice cellsV_sl ok_int ok_bool ok_string ok_pointer ok_slice ok_sl toList_arr seg_arr set_arr nth_splice nth_splice0 seg_splice seg_splice0 splice_splice splice_splice0 length_splice_if
attribute [local go_sem] w32_and w32_or w32_xor w32_add w32_or8 w32_not w8_and w8_or w8_xor w32_shr2 w32_shl2 w32_shr3 w32_shl3 w32_shr6 w32_shl6 w32_shr7 w32_shl7 w32_shr8 w32_shl8 w32_shr10 w32_shl10 w32_shr11 w32_shl11 w32_shr13 w32_shl13 w32_shr14 w32_shl14 w32_shr15 w32_shl15 w32_shr16 w32_shl16 w32_shr17 w32_shl17 w32_shr18 w32_shl18 w32_shr19 w32_shl19 w32_shr21 w32_shl21 w32_shr22 w32_shl22 w32_shr24 w32_shl24 w32_shr25 w32_shl25 w32_shr26 w32_shl26 w32_shr30 w32_shl30 w8_shl24 w8_shl16 w8_shl8 v32_add v32_byte w32_byte0 v8_shl24 v8_shl16 v8_shl8 v32_shr2 v32_shl2 v32_shr3 v32_shl3 v32_shr6 v32_shl6 v32_shr7 v32_shl7 v32_shr8 v32_shl8 v32_shr10 v32_shl10 v32_shr11 v32_shl11 v32_shr13 v32_shl13 v32_shr14 v32_shl14 v32_shr15 v32_shl15 v32_shr16 v32_shl16 v32_shr17 v32_shl17 v32_shr18 v32_shl18 v32_shr19 v32_shl19 v32_shr21 v32_shl21 v32_shr22 v32_shl22 v32_shr24 v32_shl24 v32_shr25 v32_shl25 v32_shr26 v32_shl26 v32_shr30 v32_shl30
attribute [local go_sem ↓] execOp_build
attribute [local go_sem] run_build_kv run_build_iv nth_arr_u32 put_arr_u32 nth_arr_u8 put_arr_u8 v32_of8 blk_drewN free_drewN put_drewN put_drew blk_raw free_raw
attribute [local go_sem ↓] execOp_slice execOp_copy
attribute [local go_sem] Try.sl40lo Try.sl40hi Try.sl26lo Try.sl26hi Try.sl26 Try.sl96lo Try.sl96hi Try.sl96 Try.sl31lo Try.sl31 Try.sl120 Try.sl121 Try.sl121lo Try.sl121hi Try.cp40 copyOr_some copyIn_some srcB_drew srcB_drewN srcB_raw length_bv one_bv
attribute [local go_sem] Hasher.length_zero
attribute [local go_sem] Try.cpv copyOrV_some
attribute [local go_sem ↓] execOp_index execOp_convert execOp_box execOp_convert9
attribute [local go_sem] index_hex box_run conv_bytes eq31
theorem srcB_new4 (w : World) (a b c d : UInt8) (t : TypeId) : srcB (w.alloc (.cells #[.int .u8 (w8 a), .int .u8 (w8 b), .int .u8 (w8 c), .int .u8 (w8 d)] t)) (some ⟨w.heap.size, 0, none⟩) [a, b, c, d].length = some (bv [a, b, c, d]) := by
  unfold srcB
  rw [if_neg (by simp)]
  simp only [blk_alloc, if_true]
  rfl
def cap16 (i : Nat) : Nat := 65536 * i
theorem cap16_succ (i : Nat) : cap16 (i + 1) = cap16 i + 65536 := rfl
theorem cap16_le (i : Nat) (h : i ≤ 65537) : cap16 i ≤ 4295032832 := Nat.mul_le_mul_left 65536 h
theorem _root_.Go.Blk.BytesAt.grow2 {av : Nat} {W W' : World} {a : Option Addr} {l c : Nat} {xs : List UInt8} (h : BytesAt av W a l c xs) (he : W.Extends W') : BytesAt W'.heap.size W' a l c xs := h.at_new (fun b hb => he.blk hb) he.size
set_option maxRecDepth 100000 in
theorem frame144 (f : Nat → Value) : frameN 144 f = #[f 0, f 1, f 2, f 3, f 4, f 5, f 6, f 7, f 8, f 9, f 10, f 11, f 12, f 13, f 14, f 15, f 16, f 17, f 18, f 19, f 20, f 21, f 22, f 23, f 24, f 25, f 26, f 27, f 28, f 29, f 30, f 31, f 32, f 33, f 34, f 35, f 36, f 37, f 38, f 39, f 40, f 41, f 42, f 43, f 44, f 45, f 46, f 47, f 48, f 49, f 50, f 51, f 52, f 53, f 54, f 55, f 56, f 57, f 58, f 59, f 60, f 61, f 62, f 63, f 64, f 65, f 66, f 67, f 68, f 69, f 70, f 71, f 72, f 73, f 74, f 75, f 76, f 77, f 78, f 79, f 80, f 81, f 82, f 83, f 84, f 85, f 86, f 87, f 88, f 89, f 90, f 91, f 92, f 93, f 94, f 95, f 96, f 97, f 98, f 99, f 100, f 101, f 102, f 103, f 104, f 105, f 106, f 107, f 108, f 109, f 110, f 111, f 112, f 113, f 114, f 115, f 116, f 117, f 118, f 119, f 120, f 121, f 122, f 123, f 124, f 125, f 126, f 127, f 128, f 129, f 130, f 131, f 132, f 133, f 134, f 135, f 136, f 137, f 138, f 139, f 140, f 141, f 142, f 143] := by kernel_rfl
attribute [local go_sem ↓] execOp_field
attribute [local go_sem] field50
def soI (w : World) (a : Option Addr) (len cap bp : Nat) (f : Nat → Value) (W : World) : Prop :=
  f 0 = .slice a len cap ∧ f 14 = .slice a len cap ∧ f 15 = .int .i64 (len : Nat) ∧ f 3 = .pointer (some ⟨bp, 0, none⟩) ∧ ∃ (i : Nat) (v4 v5 : Value) (hs sd : List UInt8) (p : Player), i ≤ len ∧ f 16 = .int .i64 (i : Nat) ∧ f 4 = v4 ∧ f 5 = v5 ∧
    hs.length ≤ cap16 i ∧ sd.length ≤ cap16 i ∧ Hid (SoAt w bp v4 v5 hs sd hs sd p W)
set_option maxRecDepth 20000 in
set_option maxHeartbeats 2000000 in
theorem stream_walk (w : World) (a : Option Addr) (len cap : Nat) (g : Nat → GOp) (dt : Nat → List UInt8) (hS : ScriptAt w a len cap g dt) :
    Calls Try.prog 3 #[.slice a len cap] w fun e w' => e = .returned (.bool true) ∧ w.Extends w' := by
  have HS : Hid (ScriptAt w a len cap g dt) := hS
  clear hS
  go_enter Try.func3, Try.ntmps3
  go_wp2_with fail
  refine (small_any w a len cap g dt HS.out).mono ?_
  rintro e w1 ⟨⟨r, rfl, hr⟩, hw1⟩
  subst hw1
  cases r with
  | false =>
    go_wp2_with fail
    go_ret
    exact ⟨rfl, ext_Ext (Ext.refl _)⟩
  | true =>
    obtain ⟨hl, hsm⟩ := hr rfl
    have HSM : Hid (∀ i, i < len → (g i).data.len ≤ 65536) := hsm
    clear hr hsm
    go_wp2_with fail
    refine (newPlayer_any w1).mono ?_
    rintro e w2 ⟨⟨p0, rfl, hr1, hr2, _, _, _⟩, hE2⟩
    have HR1 : Hid (Rep p0.hand []) := hr1
    have HR2 : Hid (Rep p0.aside []) := hr2
    have HE2 : Hid (Ext w1 w2) := hE2
    clear hr1 hr2 hE2
    go_wp2_with fail
    have HSO0 : Hid (SoAt w1 w2.heap.size (.slice none 0 0) (.slice none 0 0) [] [] [] [] p0 (w2.alloc (.cells p0.enc.toArray 38))) := by
      refine ⟨by rw [blk_alloc, if_pos rfl], by rw [free_alloc, if_pos rfl], HR1.out, HR2.out, OwnB.nil _ _, OwnB.nil _ _, fun k hk => by simp [Value.ownBlock] at hk, HE2.out.size, extends_alloc (ext_Ext HE2.out) _⟩
    refine wp_loop_f 144 (soI w1 a len cap w2.heap.size) (fun f _ => len - (intOf (f 16)).toNat) rfl ?_ ?_
    · exact ⟨rfl, rfl, rfl, rfl, 0, _, _, [], [], p0, by omega, rfl, rfl, rfl, by simp, by simp, HSO0⟩
    obtain ⟨w, hw⟩ : ∃ w, w = w1 := ⟨_, rfl⟩
    rw [← hw] at HS ⊢
    obtain ⟨bp, hbp⟩ : ∃ bp, bp = w2.heap.size := ⟨_, rfl⟩
    rw [← hbp]
    clear HSO0 HR1 HR2 HE2 hbp
    intro F W hrel
    obtain ⟨h0, h14, h15, h3, i, v4, v5, hs, sd, p, hi, h16, h4, h5, hlh, hls, HSO⟩ := hrel
    have H16 : Hid (F 16 = .int .i64 (i : Nat)) := h16
    rw [frame144, h0, h14, h15, h3, h4, h5, h16]
    clear h0 h14 h15 h3 h4 h5 h16
    have hcap := cap16_succ i
    have hcapl := cap16_le (i + 1) (by omega)
    have HC1 : Hid (hs.length ≤ cap16 (i + 1)) := by show _ ≤ _; omega
    have HC2 : Hid (sd.length ≤ cap16 (i + 1)) := by show _ ≤ _; omega
    by_cases hil : i < len
    · have hSW := HS.out.mono HSO.out.ext
      obtain ⟨b, o, C, rfl, hC, hlen, hseg⟩ := hSW.2.2.2 (by omega)
      have hsx := hseg i hil
      have HXw := HS.out.bytes hil (HSM.out i hil)
      obtain ⟨op, hop⟩ : ∃ op, op = g i := ⟨_, rfl⟩
      rw [← hop] at hsx HXw
      have HX0 : Hid (BytesAt w.heap.size w op.data.a op.data.len op.data.cap (dt i)) := HXw
      have HDL : Hid (op.data.len ≤ 65536) := by show _ ≤ _; rw [hop]; exact HSM.out i hil
      clear hSW hseg hop HXw
      have q0 : (0 : Int) ≤ (i : Int) := by omega
      have q1 : (i : Int) < (len : Int) := by omega
      have q2 : ((i : Int)).toNat = i := by omega
      have q3 : o + i * 39 + 39 ≤ C.length := by omega
      go_upto_region 8 with fail
      refine wp_world (fun W1 => blk W1 W.heap.size = some op.enc ∧ W.heap.size < W1.heap.size ∧ Hid (SoAt w bp v4 v5 hs sd hs sd p W1)) ⟨?_, ?_, HSO.out.grow (extends_alloc (ext_Ext (Ext.refl _)) _)⟩ ?_
      · rw [blk_alloc, if_pos rfl]
      · rw [World.size_alloc]; omega
      have HV4 : Hid (∀ k, v4.ownBlock = some k → k < W.heap.size) := HSO.out.own4.lt
      have HBPW : Hid (bp < W.heap.size) := HSO.out.lt
      clear hC HSO hsx
      rintro W1 ⟨hbo, hbol, HS1⟩
      obtain ⟨bo, hboe⟩ : ∃ bo, bo = W.heap.size := ⟨_, rfl⟩
      rw [← hboe] at hbo hbol HV4 HBPW ⊢
      clear hboe
      by_cases hk1 : op.kind = 1
      · skip
        have hX1 : BytesAt bp W1 op.data.a op.data.len op.data.cap (dt i) := HX0.out.at_new (fun b hb => HS1.out.ext.blk hb) HS1.out.base
        have hn1 := hX1.1
        have hsrc := hX1.src (Nat.le_refl op.data.len)
        rw [List.take_of_length_le (by omega)] at hsrc
        clear hX1
        have hdl := HDL.out
        go_upto_region 25 with (at_builtin; refine wpList_append2 rfl _ _ rfl (bp + 1) v4 hs (dt i) op.data.a op.data.len op.data.cap rfl rfl hn1.symm HS1.out.own4 (by rw [hn1]; exact hsrc) HS1.out.lt (by rw [hn1]; omega) ?_; intro v6 W2 ho2 hg2 hbk2)
        have HSx : Hid (SoAt w bp v6 v5 (hs ++ dt i) sd hs sd p W2) := HS1.out.app ho2 hg2 hbk2
        have hbo2 : blk W2 bo = some op.enc := (blk_of_heap (hg2.block bo hbol (fun e => by have := HV4.out bo e.symm; omega))).trans hbo
        clear hsrc ho2 hg2 hbk2
        obtain ⟨hn, hhn⟩ : ∃ hn, hn = hs ++ dt i := ⟨_, rfl⟩
        rw [← hhn] at HSx
        obtain ⟨sdn, rfl⟩ : ∃ sdn, sdn = sd := ⟨_, rfl⟩
        have HLN : Hid (hn.length ≤ cap16 (i + 1)) := by show _ ≤ _; rw [hhn, List.length_append]; rw [hn1]; omega
        have HLS : Hid (sdn.length ≤ cap16 (i + 1)) := HC2
        have HHN : Hid (hn = hs ++ dt i) := hhn
        have hlnx : hn.length ≤ 4295032832 := Nat.le_trans HLN.out hcapl
        clear hhn
        have HX2 : Hid (BytesAt bp W2 op.data.a op.data.len op.data.cap (dt i)) := HX0.out.at_new (fun b hb => HSx.out.ext.blk hb) HSx.out.base
        obtain ⟨a4, c4, hv4, _⟩ := own_bytes HSx.out.own4 (by omega)
        obtain ⟨L4, hL4⟩ : ∃ L4, L4 = hn.length := ⟨_, rfl⟩
        rw [← hL4] at hv4
        have HL4 : Hid (hn.length = L4) := hL4.symm
        have hLs : L4 ≤ cap16 (i + 1) := by have := HLN.out; omega
        subst hv4
        clear hL4
        go_wp2_with fail
        refine (step_1 W2 bp p op hs sdn (dt i) HSx.out.blk HSx.out.free HSx.out.rh HSx.out.ra hk1 HX2.out (by omega)).mono ?_
        rintro e W3 ⟨p', rfl, ⟨ho3, r1, r2, hlog⟩, hprev, hlast⟩
        rw [← HHN.out] at r1
        have HS3 : Hid (SoAt w bp (.slice a4 L4 c4) v5 hn sdn hn sdn p' W3) := HSx.out.step ho3 r1 r2
        obtain ⟨ans, hans⟩ : ∃ ans, ans = stepAns 0 Z32 0 p' := ⟨_, rfl⟩
        rw [← hans]
        have hcode : ans.code = 0 := by rw [hans]; rfl
        clear ho3 r1 r2 hlog hprev hlast hans HSx
        obtain ⟨sm, hsm⟩ : ∃ sm, sm = sha hn := ⟨_, rfl⟩
        have HSM : Hid (sm = sha hn) := hsm
        clear hsm
        go_wp2_with fail
        refine (sum_any W3 bp 0 p'.enc p'.hand hn (by rw [hand_eq]; exact HS3.out.blk) (by rw [Player.length_enc]; omega) HS3.out.rh).mono ?_
        rintro e W4 ⟨rfl, he4⟩
        rw [sum_sha _ _ HS3.out.rh, ← HSM.out]
        have HS4 : Hid (SoAt w bp (.slice a4 L4 c4) v5 hn sdn hn sdn p' W4) := HS3.out.grow (ext_Ext he4)
        clear he4 HS3
        go_wp2_with fail
        obtain ⟨a4', c4', hv4', hx4⟩ := own_bytes HS4.out.own4 (by have := HL4.out; omega)
        obtain ⟨rfl, h4b, rfl⟩ : a4' = a4 ∧ hn.length = L4 ∧ c4' = c4 := by
          injection hv4' with e1 e2 e3
          exact ⟨e1.symm, e2.symm, e3.symm⟩
        rw [h4b] at hx4
        have HX4 : Hid (BytesAt W4.heap.size W4 a4' L4 c4' hn) := hx4
        clear hx4 hv4' h4b
        refine (msum_any W4 W4.heap.size a4' L4 c4' hn HX4.out (by omega)).mono ?_
        rintro e W5 ⟨rfl, he5⟩
        rw [← HSM.out]
        have HS5 : Hid (SoAt w bp (.slice a4' L4 c4') v5 hn sdn hn sdn p' W5) := HS4.out.grow he5
        have HX5 : Hid (BytesAt W5.heap.size W5 a4' L4 c4' hn) := HX4.out.grow2 he5
        clear he5 HS4 HX4
        have w4 : IntKind.u64.wrap (L4 : Int) = (L4 : Int) := wrap_u64 _ (by omega) (by omega)
        go_wp2_with fail
        refine (hlen_any W5 bp 0 p'.enc p'.hand (by rw [hand_eq]; exact HS5.out.blk) (by rw [Player.length_enc]; omega)).mono ?_
        rintro e W6 ⟨rfl, rfl⟩
        rw [HS5.out.rh.w64, HL4.out]
        go_wp2_with fail
        refine (sum256_ok W6 W6.heap.size a4' L4 c4' hn HX5.out (by omega)).mono ?_
        rintro e W7 ⟨rfl, he7⟩
        rw [← HSM.out]
        have HS7 : Hid (SoAt w bp (.slice a4' L4 c4') v5 hn sdn hn sdn p' W7) := HS5.out.grow (ext_Ext he7)
        clear he7 HS5 HX5
        go_wp2_with fail
        refine wp_region_held_drew (S := fun W' => blk W' W7.heap.size = some (arr u8v sm) ∧ W7.heap.size < W'.heap.size ∧ Hid (SoAt w bp (.slice a4' L4 c4') v5 hn sdn hn sdn p' W')) (by kernel_rfl) ⟨?_, ?_, HS7.out.grow (extends_drew (extends_alloc (ext_Ext (Ext.refl _)) _))⟩ (fun hHeld => ?_)
        · rw [blk_drew, blk_alloc, if_pos rfl]
        · show _ < (W7.alloc _).heap.size
          rw [World.size_alloc]; omega
        refine wpAnyH_take (i := 0) (oi := ⟨_, _, _, _, _, _⟩) (v := ?_) rfl (by kernel_rfl) (by kernel_rfl) (by kernel_rfl) (fun _ _ _ h => h) (Or.inl ⟨by rfl, ?_⟩) (by assumption) ?_
        rotate_left 1
        · intro W' hSw
          obtain ⟨hS1, hS2⟩ := hSw
          go_simp
          try with_reducible rfl
        try simp only [Act.put, List.setIfInBounds_toArray, List.set_cons_zero, List.set_cons_succ]
        refine wpAnyH_take (i := 1) (oi := ⟨_, _, _, _, _, _⟩) (v := ?_) rfl (by kernel_rfl) (by kernel_rfl) (by kernel_rfl) (fun _ _ _ h => h) (Or.inl ⟨by rfl, ?_⟩) (by assumption) ?_
        rotate_left 1
        · intro W' hSw
          obtain ⟨hS1, hS2⟩ := hSw
          go_simp
          try with_reducible rfl
        try simp only [Act.put, List.setIfInBounds_toArray, List.set_cons_zero, List.set_cons_succ]
        refine wpAnyH_take (i := 2) (oi := ⟨_, _, _, _, _, _⟩) (v := ?_) rfl (by kernel_rfl) (by kernel_rfl) (by kernel_rfl) (fun _ _ _ h => h) (Or.inl ⟨by rfl, ?_⟩) (by assumption) ?_
        rotate_left 1
        · intro W' hSw
          obtain ⟨hS1, hS2⟩ := hSw
          go_simp
          try with_reducible rfl
        try simp only [Act.put, List.setIfInBounds_toArray, List.set_cons_zero, List.set_cons_succ]
        refine wpAnyH_take (i := 3) (oi := ⟨_, _, _, _, _, _⟩) (v := ?_) rfl (by kernel_rfl) (by kernel_rfl) (by kernel_rfl) (fun _ _ _ h => h) (Or.inl ⟨by rfl, ?_⟩) (by assumption) ?_
        rotate_left 1
        · intro W' hSw
          obtain ⟨hS1, hS2⟩ := hSw
          go_simp
          try with_reducible rfl
        try simp only [Act.put, List.setIfInBounds_toArray, List.set_cons_zero, List.set_cons_succ]
        refine wpAnyH_take (i := 4) (oi := ⟨_, _, _, _, _, _⟩) (v := ?_) rfl (by kernel_rfl) (by kernel_rfl) (by kernel_rfl) (fun _ _ _ h => h) (Or.inl ⟨by rfl, ?_⟩) (by assumption) ?_
        rotate_left 1
        · intro W' hSw
          obtain ⟨hS1, hS2⟩ := hSw
          go_simp
          try with_reducible rfl
        try simp only [Act.put, List.setIfInBounds_toArray, List.set_cons_zero, List.set_cons_succ]
        refine wpAnyH_ready (rs := [5]) (by kernel_rfl) (by simp) ?_
        refine AllReadyH.cons (o := ⟨_, _, _, _, _, _⟩) rfl (fun K hK => ?_) AllReadyH.nil
        go_simp
        refine (sum_any _ bp 0 p'.enc p'.hand hn (by rw [hand_eq]; exact hHeld.2.2.out.blk) (by rw [Player.length_enc]; omega) hHeld.2.2.out.rh).mono ?_
        rintro e W9 ⟨rfl, he9⟩
        rw [sum_sha _ _ hHeld.2.2.out.rh, ← HSM.out]
        dsimp only
        refine hK.out _ _ ?_ (fun hHeld => ?_)
        · exact ⟨(he9.blk hHeld.2.1).trans hHeld.1, Nat.lt_of_lt_of_le hHeld.2.1 he9.size, hHeld.2.2.out.grow (ext_Ext he9)⟩
        clear hK K
        clear he9
        try simp only [Act.put, List.setIfInBounds_toArray, List.set_cons_zero, List.set_cons_succ]
        refine wpAnyH_take (i := 6) (oi := ⟨_, _, _, _, _, _⟩) (v := ?_) rfl (by kernel_rfl) (by kernel_rfl) (by kernel_rfl) (fun _ _ _ h => h) (Or.inl ⟨by rfl, ?_⟩) (by assumption) ?_
        rotate_left 1
        · intro W' hSw
          obtain ⟨hS1, hS2⟩ := hSw
          go_simp
          try with_reducible rfl
        try simp only [Act.put, List.setIfInBounds_toArray, List.set_cons_zero, List.set_cons_succ]
        refine wpAnyH_take (i := 7) (oi := ⟨_, _, _, _, _, _⟩) (v := ?_) rfl (by kernel_rfl) (by kernel_rfl) (by kernel_rfl) (fun _ _ _ h => h) (Or.inl ⟨by rfl, ?_⟩) (by assumption) ?_
        rotate_left 1
        · intro W' hSw
          obtain ⟨hS1, hS2⟩ := hSw
          go_simp
          try with_reducible rfl
        try simp only [Act.put, List.setIfInBounds_toArray, List.set_cons_zero, List.set_cons_succ]
        refine wpAnyH_done (by kernel_rfl) ?_ _
        go_wp2_with fail
        refine ⟨rfl, rfl, ?_, ?_⟩
        · refine ⟨rfl, rfl, rfl, rfl, i + 1, _, _, hn, sdn, p', by omega, ?_, rfl, rfl, ?_, ?_, hHeld.2.2⟩
          · show Value.int .i64 _ = _
            go_num
          · exact HLN.out
          · exact HLS.out
        · show len - (intOf (Value.int .i64 _)).toNat < len - (intOf (F 16)).toNat
          rw [H16.out]
          simp [intOf]; omega
      by_cases hk2 : op.kind = 2
      · skip
        go_wp2_with fail
        refine (fill_any W1 op).mono ?_
        rintro e W5 ⟨fa, fl, fc, rfl, hfx, hfs, he5⟩
        have hX1 := hfx 0 (by omega)
        have hn1 := hX1.1
        have hsrc := hX1.src (Nat.le_refl fl)
        rw [List.take_of_length_le (by omega)] at hsrc
        have hfl := fillN_le op.n
        have hfl2 : (List.replicate (fillN op.n) op.b).length = fillN op.n := List.length_replicate
        have HS5 : Hid (SoAt w bp v4 v5 hs sd hs sd p W5) := HS1.out.grow (ext_Ext he5)
        have hbo5 := (he5.blk hbol).trans hbo
        have hbol5 : bo < W5.heap.size := Nat.lt_of_lt_of_le hbol he5.size
        clear hX1 hfx he5 hfs
        go_upto_region 25 with (at_builtin; refine wpList_append2 rfl _ _ rfl (bp + 1) v4 hs (List.replicate (fillN op.n) op.b) fa fl fc rfl rfl hn1.symm HS5.out.own4 (by rw [hn1]; exact hsrc) HS5.out.lt (by omega) ?_; intro v6 W2 ho2 hg2 hbk2)
        have HSx : Hid (SoAt w bp v6 v5 (hs ++ List.replicate (fillN op.n) op.b) sd hs sd p W2) := HS5.out.app ho2 hg2 hbk2
        have hbo2 : blk W2 bo = some op.enc := (blk_of_heap (hg2.block bo hbol5 (fun e => by have := HV4.out bo e.symm; omega))).trans hbo5
        clear hsrc ho2 hg2 hbk2
        obtain ⟨hn, hhn⟩ : ∃ hn, hn = hs ++ List.replicate (fillN op.n) op.b := ⟨_, rfl⟩
        rw [← hhn] at HSx
        obtain ⟨sdn, rfl⟩ : ∃ sdn, sdn = sd := ⟨_, rfl⟩
        have HLN : Hid (hn.length ≤ cap16 (i + 1)) := by show _ ≤ _; rw [hhn, List.length_append]; omega
        have HLS : Hid (sdn.length ≤ cap16 (i + 1)) := HC2
        have HHN : Hid (hn = hs ++ List.replicate (fillN op.n) op.b) := hhn
        have hlnx : hn.length ≤ 4295032832 := Nat.le_trans HLN.out hcapl
        clear hhn
        obtain ⟨a4, c4, hv4, _⟩ := own_bytes HSx.out.own4 (by omega)
        obtain ⟨L4, hL4⟩ : ∃ L4, L4 = hn.length := ⟨_, rfl⟩
        rw [← hL4] at hv4
        have HL4 : Hid (hn.length = L4) := hL4.symm
        have hLs : L4 ≤ cap16 (i + 1) := by have := HLN.out; omega
        subst hv4
        clear hL4
        go_wp2_with fail
        refine (step_2 W2 bp p op hs sdn HSx.out.blk HSx.out.free HSx.out.rh HSx.out.ra hk2 (by omega)).mono ?_
        rintro e W3 ⟨p', rfl, ⟨ho3, r1, r2, hlog⟩, hprev, hlast⟩
        rw [← HHN.out] at r1
        have HS3 : Hid (SoAt w bp (.slice a4 L4 c4) v5 hn sdn hn sdn p' W3) := HSx.out.step ho3 r1 r2
        obtain ⟨ans, hans⟩ : ∃ ans, ans = stepAns 0 Z32 0 p' := ⟨_, rfl⟩
        rw [← hans]
        have hcode : ans.code = 0 := by rw [hans]; rfl
        clear ho3 r1 r2 hlog hprev hlast hans HSx
        obtain ⟨sm, hsm⟩ : ∃ sm, sm = sha hn := ⟨_, rfl⟩
        have HSM : Hid (sm = sha hn) := hsm
        clear hsm
        go_wp2_with fail
        refine (sum_any W3 bp 0 p'.enc p'.hand hn (by rw [hand_eq]; exact HS3.out.blk) (by rw [Player.length_enc]; omega) HS3.out.rh).mono ?_
        rintro e W4 ⟨rfl, he4⟩
        rw [sum_sha _ _ HS3.out.rh, ← HSM.out]
        have HS4 : Hid (SoAt w bp (.slice a4 L4 c4) v5 hn sdn hn sdn p' W4) := HS3.out.grow (ext_Ext he4)
        clear he4 HS3
        go_wp2_with fail
        obtain ⟨a4', c4', hv4', hx4⟩ := own_bytes HS4.out.own4 (by have := HL4.out; omega)
        obtain ⟨rfl, h4b, rfl⟩ : a4' = a4 ∧ hn.length = L4 ∧ c4' = c4 := by
          injection hv4' with e1 e2 e3
          exact ⟨e1.symm, e2.symm, e3.symm⟩
        rw [h4b] at hx4
        have HX4 : Hid (BytesAt W4.heap.size W4 a4' L4 c4' hn) := hx4
        clear hx4 hv4' h4b
        refine (msum_any W4 W4.heap.size a4' L4 c4' hn HX4.out (by omega)).mono ?_
        rintro e W5 ⟨rfl, he5⟩
        rw [← HSM.out]
        have HS5 : Hid (SoAt w bp (.slice a4' L4 c4') v5 hn sdn hn sdn p' W5) := HS4.out.grow he5
        have HX5 : Hid (BytesAt W5.heap.size W5 a4' L4 c4' hn) := HX4.out.grow2 he5
        clear he5 HS4 HX4
        have w4 : IntKind.u64.wrap (L4 : Int) = (L4 : Int) := wrap_u64 _ (by omega) (by omega)
        go_wp2_with fail
        refine (hlen_any W5 bp 0 p'.enc p'.hand (by rw [hand_eq]; exact HS5.out.blk) (by rw [Player.length_enc]; omega)).mono ?_
        rintro e W6 ⟨rfl, rfl⟩
        rw [HS5.out.rh.w64, HL4.out]
        go_wp2_with fail
        refine (sum256_ok W6 W6.heap.size a4' L4 c4' hn HX5.out (by omega)).mono ?_
        rintro e W7 ⟨rfl, he7⟩
        rw [← HSM.out]
        have HS7 : Hid (SoAt w bp (.slice a4' L4 c4') v5 hn sdn hn sdn p' W7) := HS5.out.grow (ext_Ext he7)
        clear he7 HS5 HX5
        go_wp2_with fail
        refine wp_region_held_drew (S := fun W' => blk W' W7.heap.size = some (arr u8v sm) ∧ W7.heap.size < W'.heap.size ∧ Hid (SoAt w bp (.slice a4' L4 c4') v5 hn sdn hn sdn p' W')) (by kernel_rfl) ⟨?_, ?_, HS7.out.grow (extends_drew (extends_alloc (ext_Ext (Ext.refl _)) _))⟩ (fun hHeld => ?_)
        · rw [blk_drew, blk_alloc, if_pos rfl]
        · show _ < (W7.alloc _).heap.size
          rw [World.size_alloc]; omega
        refine wpAnyH_take (i := 0) (oi := ⟨_, _, _, _, _, _⟩) (v := ?_) rfl (by kernel_rfl) (by kernel_rfl) (by kernel_rfl) (fun _ _ _ h => h) (Or.inl ⟨by rfl, ?_⟩) (by assumption) ?_
        rotate_left 1
        · intro W' hSw
          obtain ⟨hS1, hS2⟩ := hSw
          go_simp
          try with_reducible rfl
        try simp only [Act.put, List.setIfInBounds_toArray, List.set_cons_zero, List.set_cons_succ]
        refine wpAnyH_take (i := 1) (oi := ⟨_, _, _, _, _, _⟩) (v := ?_) rfl (by kernel_rfl) (by kernel_rfl) (by kernel_rfl) (fun _ _ _ h => h) (Or.inl ⟨by rfl, ?_⟩) (by assumption) ?_
        rotate_left 1
        · intro W' hSw
          obtain ⟨hS1, hS2⟩ := hSw
          go_simp
          try with_reducible rfl
        try simp only [Act.put, List.setIfInBounds_toArray, List.set_cons_zero, List.set_cons_succ]
        refine wpAnyH_take (i := 2) (oi := ⟨_, _, _, _, _, _⟩) (v := ?_) rfl (by kernel_rfl) (by kernel_rfl) (by kernel_rfl) (fun _ _ _ h => h) (Or.inl ⟨by rfl, ?_⟩) (by assumption) ?_
        rotate_left 1
        · intro W' hSw
          obtain ⟨hS1, hS2⟩ := hSw
          go_simp
          try with_reducible rfl
        try simp only [Act.put, List.setIfInBounds_toArray, List.set_cons_zero, List.set_cons_succ]
        refine wpAnyH_take (i := 3) (oi := ⟨_, _, _, _, _, _⟩) (v := ?_) rfl (by kernel_rfl) (by kernel_rfl) (by kernel_rfl) (fun _ _ _ h => h) (Or.inl ⟨by rfl, ?_⟩) (by assumption) ?_
        rotate_left 1
        · intro W' hSw
          obtain ⟨hS1, hS2⟩ := hSw
          go_simp
          try with_reducible rfl
        try simp only [Act.put, List.setIfInBounds_toArray, List.set_cons_zero, List.set_cons_succ]
        refine wpAnyH_take (i := 4) (oi := ⟨_, _, _, _, _, _⟩) (v := ?_) rfl (by kernel_rfl) (by kernel_rfl) (by kernel_rfl) (fun _ _ _ h => h) (Or.inl ⟨by rfl, ?_⟩) (by assumption) ?_
        rotate_left 1
        · intro W' hSw
          obtain ⟨hS1, hS2⟩ := hSw
          go_simp
          try with_reducible rfl
        try simp only [Act.put, List.setIfInBounds_toArray, List.set_cons_zero, List.set_cons_succ]
        refine wpAnyH_ready (rs := [5]) (by kernel_rfl) (by simp) ?_
        refine AllReadyH.cons (o := ⟨_, _, _, _, _, _⟩) rfl (fun K hK => ?_) AllReadyH.nil
        go_simp
        refine (sum_any _ bp 0 p'.enc p'.hand hn (by rw [hand_eq]; exact hHeld.2.2.out.blk) (by rw [Player.length_enc]; omega) hHeld.2.2.out.rh).mono ?_
        rintro e W9 ⟨rfl, he9⟩
        rw [sum_sha _ _ hHeld.2.2.out.rh, ← HSM.out]
        dsimp only
        refine hK.out _ _ ?_ (fun hHeld => ?_)
        · exact ⟨(he9.blk hHeld.2.1).trans hHeld.1, Nat.lt_of_lt_of_le hHeld.2.1 he9.size, hHeld.2.2.out.grow (ext_Ext he9)⟩
        clear hK K
        clear he9
        try simp only [Act.put, List.setIfInBounds_toArray, List.set_cons_zero, List.set_cons_succ]
        refine wpAnyH_take (i := 6) (oi := ⟨_, _, _, _, _, _⟩) (v := ?_) rfl (by kernel_rfl) (by kernel_rfl) (by kernel_rfl) (fun _ _ _ h => h) (Or.inl ⟨by rfl, ?_⟩) (by assumption) ?_
        rotate_left 1
        · intro W' hSw
          obtain ⟨hS1, hS2⟩ := hSw
          go_simp
          try with_reducible rfl
        try simp only [Act.put, List.setIfInBounds_toArray, List.set_cons_zero, List.set_cons_succ]
        refine wpAnyH_take (i := 7) (oi := ⟨_, _, _, _, _, _⟩) (v := ?_) rfl (by kernel_rfl) (by kernel_rfl) (by kernel_rfl) (fun _ _ _ h => h) (Or.inl ⟨by rfl, ?_⟩) (by assumption) ?_
        rotate_left 1
        · intro W' hSw
          obtain ⟨hS1, hS2⟩ := hSw
          go_simp
          try with_reducible rfl
        try simp only [Act.put, List.setIfInBounds_toArray, List.set_cons_zero, List.set_cons_succ]
        refine wpAnyH_done (by kernel_rfl) ?_ _
        go_wp2_with fail
        refine ⟨rfl, rfl, ?_, ?_⟩
        · refine ⟨rfl, rfl, rfl, rfl, i + 1, _, _, hn, sdn, p', by omega, ?_, rfl, rfl, ?_, ?_, hHeld.2.2⟩
          · show Value.int .i64 _ = _
            go_num
          · exact HLN.out
          · exact HLS.out
        · show len - (intOf (Value.int .i64 _)).toNat < len - (intOf (F 16)).toNat
          rw [H16.out]
          simp [intOf]; omega
      by_cases hk3 : op.kind = 3
      · skip
        have HSa : Hid (SoAt w bp v4 v5 hs sd hs sd p (W1.alloc (.cells #[.int .u8 (w8 op.b)] 5))) := HS1.out.grow (extends_alloc (ext_Ext (Ext.refl _)) _)
        have hboa : blk (W1.alloc (.cells #[.int .u8 (w8 op.b)] 5)) bo = some op.enc := by rw [blk_alloc, if_neg (by omega)]; exact hbo
        have hbola : bo < (W1.alloc (.cells #[.int .u8 (w8 op.b)] 5)).heap.size := by rw [World.size_alloc]; omega
        go_upto_region 25 with (at_builtin; refine wpList_append2 rfl _ _ rfl (bp + 1) v4 hs [op.b] (some ⟨W1.heap.size, 0, none⟩) 1 1 rfl rfl rfl HSa.out.own4 (srcB_new W1 op.b 5) HSa.out.lt (by simp; omega) ?_; intro v6 W2 ho2 hg2 hbk2)
        have HSx : Hid (SoAt w bp v6 v5 (hs ++ [op.b]) sd hs sd p W2) := HSa.out.app ho2 hg2 hbk2
        have hbo2 : blk W2 bo = some op.enc := (blk_of_heap (hg2.block bo hbola (fun e => by have := HV4.out bo e.symm; omega))).trans hboa
        clear HSa ho2 hg2 hbk2
        obtain ⟨hn, hhn⟩ : ∃ hn, hn = hs ++ [op.b] := ⟨_, rfl⟩
        rw [← hhn] at HSx
        obtain ⟨sdn, rfl⟩ : ∃ sdn, sdn = sd := ⟨_, rfl⟩
        have HLN : Hid (hn.length ≤ cap16 (i + 1)) := by show _ ≤ _; rw [hhn, List.length_append]; rw [List.length_singleton]; omega
        have HLS : Hid (sdn.length ≤ cap16 (i + 1)) := HC2
        have HHN : Hid (hn = hs ++ [op.b]) := hhn
        have hlnx : hn.length ≤ 4295032832 := Nat.le_trans HLN.out hcapl
        clear hhn
        obtain ⟨a4, c4, hv4, _⟩ := own_bytes HSx.out.own4 (by omega)
        obtain ⟨L4, hL4⟩ : ∃ L4, L4 = hn.length := ⟨_, rfl⟩
        rw [← hL4] at hv4
        have HL4 : Hid (hn.length = L4) := hL4.symm
        have hLs : L4 ≤ cap16 (i + 1) := by have := HLN.out; omega
        subst hv4
        clear hL4
        go_wp2_with fail
        refine (step_3 W2 bp p op hs sdn HSx.out.blk HSx.out.free HSx.out.rh HSx.out.ra hk3 (by omega)).mono ?_
        rintro e W3 ⟨p', rfl, ⟨ho3, r1, r2, hlog⟩, hprev, hlast⟩
        rw [← HHN.out] at r1
        have HS3 : Hid (SoAt w bp (.slice a4 L4 c4) v5 hn sdn hn sdn p' W3) := HSx.out.step ho3 r1 r2
        obtain ⟨ans, hans⟩ : ∃ ans, ans = stepAns 0 Z32 0 p' := ⟨_, rfl⟩
        rw [← hans]
        have hcode : ans.code = 0 := by rw [hans]; rfl
        clear ho3 r1 r2 hlog hprev hlast hans HSx
        obtain ⟨sm, hsm⟩ : ∃ sm, sm = sha hn := ⟨_, rfl⟩
        have HSM : Hid (sm = sha hn) := hsm
        clear hsm
        go_wp2_with fail
        refine (sum_any W3 bp 0 p'.enc p'.hand hn (by rw [hand_eq]; exact HS3.out.blk) (by rw [Player.length_enc]; omega) HS3.out.rh).mono ?_
        rintro e W4 ⟨rfl, he4⟩
        rw [sum_sha _ _ HS3.out.rh, ← HSM.out]
        have HS4 : Hid (SoAt w bp (.slice a4 L4 c4) v5 hn sdn hn sdn p' W4) := HS3.out.grow (ext_Ext he4)
        clear he4 HS3
        go_wp2_with fail
        obtain ⟨a4', c4', hv4', hx4⟩ := own_bytes HS4.out.own4 (by have := HL4.out; omega)
        obtain ⟨rfl, h4b, rfl⟩ : a4' = a4 ∧ hn.length = L4 ∧ c4' = c4 := by
          injection hv4' with e1 e2 e3
          exact ⟨e1.symm, e2.symm, e3.symm⟩
        rw [h4b] at hx4
        have HX4 : Hid (BytesAt W4.heap.size W4 a4' L4 c4' hn) := hx4
        clear hx4 hv4' h4b
        refine (msum_any W4 W4.heap.size a4' L4 c4' hn HX4.out (by omega)).mono ?_
        rintro e W5 ⟨rfl, he5⟩
        rw [← HSM.out]
        have HS5 : Hid (SoAt w bp (.slice a4' L4 c4') v5 hn sdn hn sdn p' W5) := HS4.out.grow he5
        have HX5 : Hid (BytesAt W5.heap.size W5 a4' L4 c4' hn) := HX4.out.grow2 he5
        clear he5 HS4 HX4
        have w4 : IntKind.u64.wrap (L4 : Int) = (L4 : Int) := wrap_u64 _ (by omega) (by omega)
        go_wp2_with fail
        refine (hlen_any W5 bp 0 p'.enc p'.hand (by rw [hand_eq]; exact HS5.out.blk) (by rw [Player.length_enc]; omega)).mono ?_
        rintro e W6 ⟨rfl, rfl⟩
        rw [HS5.out.rh.w64, HL4.out]
        go_wp2_with fail
        refine (sum256_ok W6 W6.heap.size a4' L4 c4' hn HX5.out (by omega)).mono ?_
        rintro e W7 ⟨rfl, he7⟩
        rw [← HSM.out]
        have HS7 : Hid (SoAt w bp (.slice a4' L4 c4') v5 hn sdn hn sdn p' W7) := HS5.out.grow (ext_Ext he7)
        clear he7 HS5 HX5
        go_wp2_with fail
        refine wp_region_held_drew (S := fun W' => blk W' W7.heap.size = some (arr u8v sm) ∧ W7.heap.size < W'.heap.size ∧ Hid (SoAt w bp (.slice a4' L4 c4') v5 hn sdn hn sdn p' W')) (by kernel_rfl) ⟨?_, ?_, HS7.out.grow (extends_drew (extends_alloc (ext_Ext (Ext.refl _)) _))⟩ (fun hHeld => ?_)
        · rw [blk_drew, blk_alloc, if_pos rfl]
        · show _ < (W7.alloc _).heap.size
          rw [World.size_alloc]; omega
        refine wpAnyH_take (i := 0) (oi := ⟨_, _, _, _, _, _⟩) (v := ?_) rfl (by kernel_rfl) (by kernel_rfl) (by kernel_rfl) (fun _ _ _ h => h) (Or.inl ⟨by rfl, ?_⟩) (by assumption) ?_
        rotate_left 1
        · intro W' hSw
          obtain ⟨hS1, hS2⟩ := hSw
          go_simp
          try with_reducible rfl
        try simp only [Act.put, List.setIfInBounds_toArray, List.set_cons_zero, List.set_cons_succ]
        refine wpAnyH_take (i := 1) (oi := ⟨_, _, _, _, _, _⟩) (v := ?_) rfl (by kernel_rfl) (by kernel_rfl) (by kernel_rfl) (fun _ _ _ h => h) (Or.inl ⟨by rfl, ?_⟩) (by assumption) ?_
        rotate_left 1
        · intro W' hSw
          obtain ⟨hS1, hS2⟩ := hSw
          go_simp
          try with_reducible rfl
        try simp only [Act.put, List.setIfInBounds_toArray, List.set_cons_zero, List.set_cons_succ]
        refine wpAnyH_take (i := 2) (oi := ⟨_, _, _, _, _, _⟩) (v := ?_) rfl (by kernel_rfl) (by kernel_rfl) (by kernel_rfl) (fun _ _ _ h => h) (Or.inl ⟨by rfl, ?_⟩) (by assumption) ?_
        rotate_left 1
        · intro W' hSw
          obtain ⟨hS1, hS2⟩ := hSw
          go_simp
          try with_reducible rfl
        try simp only [Act.put, List.setIfInBounds_toArray, List.set_cons_zero, List.set_cons_succ]
        refine wpAnyH_take (i := 3) (oi := ⟨_, _, _, _, _, _⟩) (v := ?_) rfl (by kernel_rfl) (by kernel_rfl) (by kernel_rfl) (fun _ _ _ h => h) (Or.inl ⟨by rfl, ?_⟩) (by assumption) ?_
        rotate_left 1
        · intro W' hSw
          obtain ⟨hS1, hS2⟩ := hSw
          go_simp
          try with_reducible rfl
        try simp only [Act.put, List.setIfInBounds_toArray, List.set_cons_zero, List.set_cons_succ]
        refine wpAnyH_take (i := 4) (oi := ⟨_, _, _, _, _, _⟩) (v := ?_) rfl (by kernel_rfl) (by kernel_rfl) (by kernel_rfl) (fun _ _ _ h => h) (Or.inl ⟨by rfl, ?_⟩) (by assumption) ?_
        rotate_left 1
        · intro W' hSw
          obtain ⟨hS1, hS2⟩ := hSw
          go_simp
          try with_reducible rfl
        try simp only [Act.put, List.setIfInBounds_toArray, List.set_cons_zero, List.set_cons_succ]
        refine wpAnyH_ready (rs := [5]) (by kernel_rfl) (by simp) ?_
        refine AllReadyH.cons (o := ⟨_, _, _, _, _, _⟩) rfl (fun K hK => ?_) AllReadyH.nil
        go_simp
        refine (sum_any _ bp 0 p'.enc p'.hand hn (by rw [hand_eq]; exact hHeld.2.2.out.blk) (by rw [Player.length_enc]; omega) hHeld.2.2.out.rh).mono ?_
        rintro e W9 ⟨rfl, he9⟩
        rw [sum_sha _ _ hHeld.2.2.out.rh, ← HSM.out]
        dsimp only
        refine hK.out _ _ ?_ (fun hHeld => ?_)
        · exact ⟨(he9.blk hHeld.2.1).trans hHeld.1, Nat.lt_of_lt_of_le hHeld.2.1 he9.size, hHeld.2.2.out.grow (ext_Ext he9)⟩
        clear hK K
        clear he9
        try simp only [Act.put, List.setIfInBounds_toArray, List.set_cons_zero, List.set_cons_succ]
        refine wpAnyH_take (i := 6) (oi := ⟨_, _, _, _, _, _⟩) (v := ?_) rfl (by kernel_rfl) (by kernel_rfl) (by kernel_rfl) (fun _ _ _ h => h) (Or.inl ⟨by rfl, ?_⟩) (by assumption) ?_
        rotate_left 1
        · intro W' hSw
          obtain ⟨hS1, hS2⟩ := hSw
          go_simp
          try with_reducible rfl
        try simp only [Act.put, List.setIfInBounds_toArray, List.set_cons_zero, List.set_cons_succ]
        refine wpAnyH_take (i := 7) (oi := ⟨_, _, _, _, _, _⟩) (v := ?_) rfl (by kernel_rfl) (by kernel_rfl) (by kernel_rfl) (fun _ _ _ h => h) (Or.inl ⟨by rfl, ?_⟩) (by assumption) ?_
        rotate_left 1
        · intro W' hSw
          obtain ⟨hS1, hS2⟩ := hSw
          go_simp
          try with_reducible rfl
        try simp only [Act.put, List.setIfInBounds_toArray, List.set_cons_zero, List.set_cons_succ]
        refine wpAnyH_done (by kernel_rfl) ?_ _
        go_wp2_with fail
        refine ⟨rfl, rfl, ?_, ?_⟩
        · refine ⟨rfl, rfl, rfl, rfl, i + 1, _, _, hn, sdn, p', by omega, ?_, rfl, rfl, ?_, ?_, hHeld.2.2⟩
          · show Value.int .i64 _ = _
            go_num
          · exact HLN.out
          · exact HLS.out
        · show len - (intOf (Value.int .i64 _)).toNat < len - (intOf (F 16)).toNat
          rw [H16.out]
          simp [intOf]; omega
      by_cases hk4 : op.kind = 4
      · skip
        obtain ⟨B, hB0⟩ : ∃ B, op.v.toNat = B := ⟨_, rfl⟩
        have hB : w64 op.v = (B : Int) := by unfold w64; rw [hB0]
        obtain ⟨y4, hy4⟩ : ∃ y, (be8 B).getD 4 0 = y := ⟨_, rfl⟩
        have d4 : IntKind.u8.wrap ((B : Int) / 16777216) = w8 y4 := by rw [IntKind.wrap_u8, ← hy4, ← be8_4]; omega
        obtain ⟨y5, hy5⟩ : ∃ y, (be8 B).getD 5 0 = y := ⟨_, rfl⟩
        have d5 : IntKind.u8.wrap ((B : Int) / 65536) = w8 y5 := by rw [IntKind.wrap_u8, ← hy5, ← be8_5]; omega
        obtain ⟨y6, hy6⟩ : ∃ y, (be8 B).getD 6 0 = y := ⟨_, rfl⟩
        have d6 : IntKind.u8.wrap ((B : Int) / 256) = w8 y6 := by rw [IntKind.wrap_u8, ← hy6, ← be8_6]; omega
        obtain ⟨y7, hy7⟩ : ∃ y, (be8 B).getD 7 0 = y := ⟨_, rfl⟩
        have d7 : IntKind.u8.wrap ((B : Int)) = w8 y7 := by rw [IntKind.wrap_u8, ← hy7, ← be8_7]; omega
        have hbe : [y4, y5, y6, y7] = be4 (UInt32.ofNat B) := by rw [← hy4, ← hy5, ← hy6, ← hy7]; rfl
        have HBE : Hid ([y4, y5, y6, y7] = be4 (UInt32.ofNat B)) := hbe
        have HB0 : Hid (op.v.toNat = B) := hB0
        clear hy4 hy5 hy6 hy7 hbe hB0
        have HSa : Hid (SoAt w bp v4 v5 hs sd hs sd p (W1.alloc (.cells #[.int .u8 (w8 y4), .int .u8 (w8 y5), .int .u8 (w8 y6), .int .u8 (w8 y7)] 5))) := HS1.out.grow (extends_alloc (ext_Ext (Ext.refl _)) _)
        have hboa : blk (W1.alloc (.cells #[.int .u8 (w8 y4), .int .u8 (w8 y5), .int .u8 (w8 y6), .int .u8 (w8 y7)] 5)) bo = some op.enc := by rw [blk_alloc, if_neg (by omega)]; exact hbo
        have hbola : bo < (W1.alloc (.cells #[.int .u8 (w8 y4), .int .u8 (w8 y5), .int .u8 (w8 y6), .int .u8 (w8 y7)] 5)).heap.size := by rw [World.size_alloc]; omega
        go_upto_region 25 with (at_builtin; refine wpList_append2 rfl _ _ rfl (bp + 1) v4 hs [y4, y5, y6, y7] (some ⟨W1.heap.size, 0, none⟩) 4 4 rfl rfl rfl HSa.out.own4 (srcB_new4 W1 y4 y5 y6 y7 5) HSa.out.lt (by simp; omega) ?_; intro v6 W2 ho2 hg2 hbk2)
        have HSx : Hid (SoAt w bp v6 v5 (hs ++ [y4, y5, y6, y7]) sd hs sd p W2) := HSa.out.app ho2 hg2 hbk2
        have hbo2 : blk W2 bo = some op.enc := (blk_of_heap (hg2.block bo hbola (fun e => by have := HV4.out bo e.symm; omega))).trans hboa
        clear HSa ho2 hg2 hbk2
        obtain ⟨hn, hhn⟩ : ∃ hn, hn = hs ++ [y4, y5, y6, y7] := ⟨_, rfl⟩
        rw [← hhn] at HSx
        obtain ⟨sdn, rfl⟩ : ∃ sdn, sdn = sd := ⟨_, rfl⟩
        have HLN : Hid (hn.length ≤ cap16 (i + 1)) := by show _ ≤ _; rw [hhn, List.length_append]; simp only [List.length_cons, List.length_nil]; omega
        have HLS : Hid (sdn.length ≤ cap16 (i + 1)) := HC2
        have HHN : Hid (hn = hs ++ [y4, y5, y6, y7]) := hhn
        have hlnx : hn.length ≤ 4295032832 := Nat.le_trans HLN.out hcapl
        clear hhn
        obtain ⟨a4, c4, hv4, _⟩ := own_bytes HSx.out.own4 (by omega)
        obtain ⟨L4, hL4⟩ : ∃ L4, L4 = hn.length := ⟨_, rfl⟩
        rw [← hL4] at hv4
        have HL4 : Hid (hn.length = L4) := hL4.symm
        have hLs : L4 ≤ cap16 (i + 1) := by have := HLN.out; omega
        subst hv4
        clear hL4
        go_wp2_with fail
        refine (step_4 W2 bp p op hs sdn HSx.out.blk HSx.out.free HSx.out.rh HSx.out.ra hk4 (by omega)).mono ?_
        rintro e W3 ⟨p', rfl, ⟨ho3, r1, r2, hlog⟩, hprev, hlast⟩
        rw [HB0.out, ← HBE.out, ← HHN.out] at r1
        have HS3 : Hid (SoAt w bp (.slice a4 L4 c4) v5 hn sdn hn sdn p' W3) := HSx.out.step ho3 r1 r2
        obtain ⟨ans, hans⟩ : ∃ ans, ans = stepAns 0 Z32 0 p' := ⟨_, rfl⟩
        rw [← hans]
        have hcode : ans.code = 0 := by rw [hans]; rfl
        clear ho3 r1 r2 hlog hprev hlast hans HSx
        obtain ⟨sm, hsm⟩ : ∃ sm, sm = sha hn := ⟨_, rfl⟩
        have HSM : Hid (sm = sha hn) := hsm
        clear hsm
        go_wp2_with fail
        refine (sum_any W3 bp 0 p'.enc p'.hand hn (by rw [hand_eq]; exact HS3.out.blk) (by rw [Player.length_enc]; omega) HS3.out.rh).mono ?_
        rintro e W4 ⟨rfl, he4⟩
        rw [sum_sha _ _ HS3.out.rh, ← HSM.out]
        have HS4 : Hid (SoAt w bp (.slice a4 L4 c4) v5 hn sdn hn sdn p' W4) := HS3.out.grow (ext_Ext he4)
        clear he4 HS3
        go_wp2_with fail
        obtain ⟨a4', c4', hv4', hx4⟩ := own_bytes HS4.out.own4 (by have := HL4.out; omega)
        obtain ⟨rfl, h4b, rfl⟩ : a4' = a4 ∧ hn.length = L4 ∧ c4' = c4 := by
          injection hv4' with e1 e2 e3
          exact ⟨e1.symm, e2.symm, e3.symm⟩
        rw [h4b] at hx4
        have HX4 : Hid (BytesAt W4.heap.size W4 a4' L4 c4' hn) := hx4
        clear hx4 hv4' h4b
        refine (msum_any W4 W4.heap.size a4' L4 c4' hn HX4.out (by omega)).mono ?_
        rintro e W5 ⟨rfl, he5⟩
        rw [← HSM.out]
        have HS5 : Hid (SoAt w bp (.slice a4' L4 c4') v5 hn sdn hn sdn p' W5) := HS4.out.grow he5
        have HX5 : Hid (BytesAt W5.heap.size W5 a4' L4 c4' hn) := HX4.out.grow2 he5
        clear he5 HS4 HX4
        have w4 : IntKind.u64.wrap (L4 : Int) = (L4 : Int) := wrap_u64 _ (by omega) (by omega)
        go_wp2_with fail
        refine (hlen_any W5 bp 0 p'.enc p'.hand (by rw [hand_eq]; exact HS5.out.blk) (by rw [Player.length_enc]; omega)).mono ?_
        rintro e W6 ⟨rfl, rfl⟩
        rw [HS5.out.rh.w64, HL4.out]
        go_wp2_with fail
        refine (sum256_ok W6 W6.heap.size a4' L4 c4' hn HX5.out (by omega)).mono ?_
        rintro e W7 ⟨rfl, he7⟩
        rw [← HSM.out]
        have HS7 : Hid (SoAt w bp (.slice a4' L4 c4') v5 hn sdn hn sdn p' W7) := HS5.out.grow (ext_Ext he7)
        clear he7 HS5 HX5
        go_wp2_with fail
        refine wp_region_held_drew (S := fun W' => blk W' W7.heap.size = some (arr u8v sm) ∧ W7.heap.size < W'.heap.size ∧ Hid (SoAt w bp (.slice a4' L4 c4') v5 hn sdn hn sdn p' W')) (by kernel_rfl) ⟨?_, ?_, HS7.out.grow (extends_drew (extends_alloc (ext_Ext (Ext.refl _)) _))⟩ (fun hHeld => ?_)
        · rw [blk_drew, blk_alloc, if_pos rfl]
        · show _ < (W7.alloc _).heap.size
          rw [World.size_alloc]; omega
        refine wpAnyH_take (i := 0) (oi := ⟨_, _, _, _, _, _⟩) (v := ?_) rfl (by kernel_rfl) (by kernel_rfl) (by kernel_rfl) (fun _ _ _ h => h) (Or.inl ⟨by rfl, ?_⟩) (by assumption) ?_
        rotate_left 1
        · intro W' hSw
          obtain ⟨hS1, hS2⟩ := hSw
          go_simp
          try with_reducible rfl
        try simp only [Act.put, List.setIfInBounds_toArray, List.set_cons_zero, List.set_cons_succ]
        refine wpAnyH_take (i := 1) (oi := ⟨_, _, _, _, _, _⟩) (v := ?_) rfl (by kernel_rfl) (by kernel_rfl) (by kernel_rfl) (fun _ _ _ h => h) (Or.inl ⟨by rfl, ?_⟩) (by assumption) ?_
        rotate_left 1
        · intro W' hSw
          obtain ⟨hS1, hS2⟩ := hSw
          go_simp
          try with_reducible rfl
        try simp only [Act.put, List.setIfInBounds_toArray, List.set_cons_zero, List.set_cons_succ]
        refine wpAnyH_take (i := 2) (oi := ⟨_, _, _, _, _, _⟩) (v := ?_) rfl (by kernel_rfl) (by kernel_rfl) (by kernel_rfl) (fun _ _ _ h => h) (Or.inl ⟨by rfl, ?_⟩) (by assumption) ?_
        rotate_left 1
        · intro W' hSw
          obtain ⟨hS1, hS2⟩ := hSw
          go_simp
          try with_reducible rfl
        try simp only [Act.put, List.setIfInBounds_toArray, List.set_cons_zero, List.set_cons_succ]
        refine wpAnyH_take (i := 3) (oi := ⟨_, _, _, _, _, _⟩) (v := ?_) rfl (by kernel_rfl) (by kernel_rfl) (by kernel_rfl) (fun _ _ _ h => h) (Or.inl ⟨by rfl, ?_⟩) (by assumption) ?_
        rotate_left 1
        · intro W' hSw
          obtain ⟨hS1, hS2⟩ := hSw
          go_simp
          try with_reducible rfl
        try simp only [Act.put, List.setIfInBounds_toArray, List.set_cons_zero, List.set_cons_succ]
        refine wpAnyH_take (i := 4) (oi := ⟨_, _, _, _, _, _⟩) (v := ?_) rfl (by kernel_rfl) (by kernel_rfl) (by kernel_rfl) (fun _ _ _ h => h) (Or.inl ⟨by rfl, ?_⟩) (by assumption) ?_
        rotate_left 1
        · intro W' hSw
          obtain ⟨hS1, hS2⟩ := hSw
          go_simp
          try with_reducible rfl
        try simp only [Act.put, List.setIfInBounds_toArray, List.set_cons_zero, List.set_cons_succ]
        refine wpAnyH_ready (rs := [5]) (by kernel_rfl) (by simp) ?_
        refine AllReadyH.cons (o := ⟨_, _, _, _, _, _⟩) rfl (fun K hK => ?_) AllReadyH.nil
        go_simp
        refine (sum_any _ bp 0 p'.enc p'.hand hn (by rw [hand_eq]; exact hHeld.2.2.out.blk) (by rw [Player.length_enc]; omega) hHeld.2.2.out.rh).mono ?_
        rintro e W9 ⟨rfl, he9⟩
        rw [sum_sha _ _ hHeld.2.2.out.rh, ← HSM.out]
        dsimp only
        refine hK.out _ _ ?_ (fun hHeld => ?_)
        · exact ⟨(he9.blk hHeld.2.1).trans hHeld.1, Nat.lt_of_lt_of_le hHeld.2.1 he9.size, hHeld.2.2.out.grow (ext_Ext he9)⟩
        clear hK K
        clear he9
        try simp only [Act.put, List.setIfInBounds_toArray, List.set_cons_zero, List.set_cons_succ]
        refine wpAnyH_take (i := 6) (oi := ⟨_, _, _, _, _, _⟩) (v := ?_) rfl (by kernel_rfl) (by kernel_rfl) (by kernel_rfl) (fun _ _ _ h => h) (Or.inl ⟨by rfl, ?_⟩) (by assumption) ?_
        rotate_left 1
        · intro W' hSw
          obtain ⟨hS1, hS2⟩ := hSw
          go_simp
          try with_reducible rfl
        try simp only [Act.put, List.setIfInBounds_toArray, List.set_cons_zero, List.set_cons_succ]
        refine wpAnyH_take (i := 7) (oi := ⟨_, _, _, _, _, _⟩) (v := ?_) rfl (by kernel_rfl) (by kernel_rfl) (by kernel_rfl) (fun _ _ _ h => h) (Or.inl ⟨by rfl, ?_⟩) (by assumption) ?_
        rotate_left 1
        · intro W' hSw
          obtain ⟨hS1, hS2⟩ := hSw
          go_simp
          try with_reducible rfl
        try simp only [Act.put, List.setIfInBounds_toArray, List.set_cons_zero, List.set_cons_succ]
        refine wpAnyH_done (by kernel_rfl) ?_ _
        go_wp2_with fail
        refine ⟨rfl, rfl, ?_, ?_⟩
        · refine ⟨rfl, rfl, rfl, rfl, i + 1, _, _, hn, sdn, p', by omega, ?_, rfl, rfl, ?_, ?_, hHeld.2.2⟩
          · show Value.int .i64 _ = _
            go_num
          · exact HLN.out
          · exact HLS.out
        · show len - (intOf (Value.int .i64 _)).toNat < len - (intOf (F 16)).toNat
          rw [H16.out]
          simp [intOf]; omega
      by_cases hk5 : op.kind = 5
      · skip
        obtain ⟨B, hB0⟩ : ∃ B, op.v.toNat = B := ⟨_, rfl⟩
        have hB : w64 op.v = (B : Int) := by unfold w64; rw [hB0]
        obtain ⟨y0, hy0⟩ : ∃ y, (be8 B).getD 0 0 = y := ⟨_, rfl⟩
        have d0 : IntKind.u8.wrap ((B : Int) / 72057594037927936) = w8 y0 := by rw [IntKind.wrap_u8, ← hy0, ← be8_0]; omega
        obtain ⟨y1, hy1⟩ : ∃ y, (be8 B).getD 1 0 = y := ⟨_, rfl⟩
        have d1 : IntKind.u8.wrap ((B : Int) / 281474976710656) = w8 y1 := by rw [IntKind.wrap_u8, ← hy1, ← be8_1]; omega
        obtain ⟨y2, hy2⟩ : ∃ y, (be8 B).getD 2 0 = y := ⟨_, rfl⟩
        have d2 : IntKind.u8.wrap ((B : Int) / 1099511627776) = w8 y2 := by rw [IntKind.wrap_u8, ← hy2, ← be8_2]; omega
        obtain ⟨y3, hy3⟩ : ∃ y, (be8 B).getD 3 0 = y := ⟨_, rfl⟩
        have d3 : IntKind.u8.wrap ((B : Int) / 4294967296) = w8 y3 := by rw [IntKind.wrap_u8, ← hy3, ← be8_3]; omega
        obtain ⟨y4, hy4⟩ : ∃ y, (be8 B).getD 4 0 = y := ⟨_, rfl⟩
        have d4 : IntKind.u8.wrap ((B : Int) / 16777216) = w8 y4 := by rw [IntKind.wrap_u8, ← hy4, ← be8_4]; omega
        obtain ⟨y5, hy5⟩ : ∃ y, (be8 B).getD 5 0 = y := ⟨_, rfl⟩
        have d5 : IntKind.u8.wrap ((B : Int) / 65536) = w8 y5 := by rw [IntKind.wrap_u8, ← hy5, ← be8_5]; omega
        obtain ⟨y6, hy6⟩ : ∃ y, (be8 B).getD 6 0 = y := ⟨_, rfl⟩
        have d6 : IntKind.u8.wrap ((B : Int) / 256) = w8 y6 := by rw [IntKind.wrap_u8, ← hy6, ← be8_6]; omega
        obtain ⟨y7, hy7⟩ : ∃ y, (be8 B).getD 7 0 = y := ⟨_, rfl⟩
        have d7 : IntKind.u8.wrap ((B : Int)) = w8 y7 := by rw [IntKind.wrap_u8, ← hy7, ← be8_7]; omega
        have hbe : [y0, y1, y2, y3] ++ [y4, y5, y6, y7] = be8 B := by rw [← hy0, ← hy1, ← hy2, ← hy3, ← hy4, ← hy5, ← hy6, ← hy7]; rfl
        have HBE : Hid ([y0, y1, y2, y3] ++ [y4, y5, y6, y7] = be8 B) := hbe
        have HB0 : Hid (op.v.toNat = B) := hB0
        clear hy0 hy1 hy2 hy3 hy4 hy5 hy6 hy7 hbe hB0
        have HSa : Hid (SoAt w bp v4 v5 hs sd hs sd p (W1.alloc (.cells #[.int .u8 (w8 y0), .int .u8 (w8 y1), .int .u8 (w8 y2), .int .u8 (w8 y3)] 5))) := HS1.out.grow (extends_alloc (ext_Ext (Ext.refl _)) _)
        have hboa : blk (W1.alloc (.cells #[.int .u8 (w8 y0), .int .u8 (w8 y1), .int .u8 (w8 y2), .int .u8 (w8 y3)] 5)) bo = some op.enc := by rw [blk_alloc, if_neg (by omega)]; exact hbo
        have hbola : bo < (W1.alloc (.cells #[.int .u8 (w8 y0), .int .u8 (w8 y1), .int .u8 (w8 y2), .int .u8 (w8 y3)] 5)).heap.size := by rw [World.size_alloc]; omega
        go_upto_region 19 with (at_builtin; refine wpList_append2 rfl _ _ rfl (bp + 1) v4 hs [y0, y1, y2, y3] (some ⟨W1.heap.size, 0, none⟩) 4 4 rfl rfl rfl HSa.out.own4 (srcB_new4 W1 y0 y1 y2 y3 5) HSa.out.lt (by simp; omega) ?_; intro v7 W8 ho8 hg8 hbk8)
        have HS8 : Hid (SoAt w bp v7 v5 (hs ++ [y0, y1, y2, y3]) sd hs sd p W8) := HSa.out.app ho8 hg8 hbk8
        have hbo8 : blk W8 bo = some op.enc := (blk_of_heap (hg8.block bo hbola (fun e => by have := HV4.out bo e.symm; omega))).trans hboa
        have hbol8 : bo < W8.heap.size := Nat.lt_of_lt_of_le hbola hg8.size
        have HV7 : Hid (∀ k, v7.ownBlock = some k → k ≠ bo) := by
          intro k hk
          rcases hbk8 with e | e
          · rw [e] at hk; have := HV4.out k hk; omega
          · rw [e] at hk
            rw [← Option.some.inj hk, World.size_alloc]
            omega
        clear ho8 hg8 hbk8 hboa hbola HSa
        have HSa : Hid (SoAt w bp v7 v5 (hs ++ [y0, y1, y2, y3]) sd hs sd p (W8.alloc (.cells #[.int .u8 (w8 y4), .int .u8 (w8 y5), .int .u8 (w8 y6), .int .u8 (w8 y7)] 5))) := HS8.out.grow (extends_alloc (ext_Ext (Ext.refl _)) _)
        have hboa : blk (W8.alloc (.cells #[.int .u8 (w8 y4), .int .u8 (w8 y5), .int .u8 (w8 y6), .int .u8 (w8 y7)] 5)) bo = some op.enc := by rw [blk_alloc, if_neg (by omega)]; exact hbo8
        have hbola : bo < (W8.alloc (.cells #[.int .u8 (w8 y4), .int .u8 (w8 y5), .int .u8 (w8 y6), .int .u8 (w8 y7)] 5)).heap.size := by rw [World.size_alloc]; omega
        go_upto_region 25 with (at_builtin; refine wpList_append2 rfl _ _ rfl (bp + 1) v7 (hs ++ [y0, y1, y2, y3]) [y4, y5, y6, y7] (some ⟨W8.heap.size, 0, none⟩) 4 4 rfl rfl rfl HSa.out.own4 (srcB_new4 W8 y4 y5 y6 y7 5) HSa.out.lt (by simp; omega) ?_; intro v6 W2 ho2 hg2 hbk2)
        rw [List.append_assoc] at ho2
        have HSx : Hid (SoAt w bp v6 v5 (hs ++ ([y0, y1, y2, y3] ++ [y4, y5, y6, y7])) sd hs sd p W2) := HSa.out.app ho2 hg2 hbk2
        have hbo2 : blk W2 bo = some op.enc := (blk_of_heap (hg2.block bo hbola (fun e => HV7.out bo e.symm rfl))).trans hboa
        clear HSa ho2 hg2 hbk2
        obtain ⟨hn, hhn⟩ : ∃ hn, hn = hs ++ ([y0, y1, y2, y3] ++ [y4, y5, y6, y7]) := ⟨_, rfl⟩
        rw [← hhn] at HSx
        obtain ⟨sdn, rfl⟩ : ∃ sdn, sdn = sd := ⟨_, rfl⟩
        have HLN : Hid (hn.length ≤ cap16 (i + 1)) := by show _ ≤ _; rw [hhn, List.length_append]; simp only [List.length_cons, List.length_nil, List.length_append]; omega
        have HLS : Hid (sdn.length ≤ cap16 (i + 1)) := HC2
        have HHN : Hid (hn = hs ++ ([y0, y1, y2, y3] ++ [y4, y5, y6, y7])) := hhn
        have hlnx : hn.length ≤ 4295032832 := Nat.le_trans HLN.out hcapl
        clear hhn
        obtain ⟨a4, c4, hv4, _⟩ := own_bytes HSx.out.own4 (by omega)
        obtain ⟨L4, hL4⟩ : ∃ L4, L4 = hn.length := ⟨_, rfl⟩
        rw [← hL4] at hv4
        have HL4 : Hid (hn.length = L4) := hL4.symm
        have hLs : L4 ≤ cap16 (i + 1) := by have := HLN.out; omega
        subst hv4
        clear hL4
        go_wp2_with fail
        refine (step_5 W2 bp p op hs sdn HSx.out.blk HSx.out.free HSx.out.rh HSx.out.ra hk5 (by omega)).mono ?_
        rintro e W3 ⟨p', rfl, ⟨ho3, r1, r2, hlog⟩, hprev, hlast⟩
        rw [HB0.out, ← HBE.out, ← HHN.out] at r1
        have HS3 : Hid (SoAt w bp (.slice a4 L4 c4) v5 hn sdn hn sdn p' W3) := HSx.out.step ho3 r1 r2
        obtain ⟨ans, hans⟩ : ∃ ans, ans = stepAns 0 Z32 0 p' := ⟨_, rfl⟩
        rw [← hans]
        have hcode : ans.code = 0 := by rw [hans]; rfl
        clear ho3 r1 r2 hlog hprev hlast hans HSx
        obtain ⟨sm, hsm⟩ : ∃ sm, sm = sha hn := ⟨_, rfl⟩
        have HSM : Hid (sm = sha hn) := hsm
        clear hsm
        go_wp2_with fail
        refine (sum_any W3 bp 0 p'.enc p'.hand hn (by rw [hand_eq]; exact HS3.out.blk) (by rw [Player.length_enc]; omega) HS3.out.rh).mono ?_
        rintro e W4 ⟨rfl, he4⟩
        rw [sum_sha _ _ HS3.out.rh, ← HSM.out]
        have HS4 : Hid (SoAt w bp (.slice a4 L4 c4) v5 hn sdn hn sdn p' W4) := HS3.out.grow (ext_Ext he4)
        clear he4 HS3
        go_wp2_with fail
        obtain ⟨a4', c4', hv4', hx4⟩ := own_bytes HS4.out.own4 (by have := HL4.out; omega)
        obtain ⟨rfl, h4b, rfl⟩ : a4' = a4 ∧ hn.length = L4 ∧ c4' = c4 := by
          injection hv4' with e1 e2 e3
          exact ⟨e1.symm, e2.symm, e3.symm⟩
        rw [h4b] at hx4
        have HX4 : Hid (BytesAt W4.heap.size W4 a4' L4 c4' hn) := hx4
        clear hx4 hv4' h4b
        refine (msum_any W4 W4.heap.size a4' L4 c4' hn HX4.out (by omega)).mono ?_
        rintro e W5 ⟨rfl, he5⟩
        rw [← HSM.out]
        have HS5 : Hid (SoAt w bp (.slice a4' L4 c4') v5 hn sdn hn sdn p' W5) := HS4.out.grow he5
        have HX5 : Hid (BytesAt W5.heap.size W5 a4' L4 c4' hn) := HX4.out.grow2 he5
        clear he5 HS4 HX4
        have w4 : IntKind.u64.wrap (L4 : Int) = (L4 : Int) := wrap_u64 _ (by omega) (by omega)
        go_wp2_with fail
        refine (hlen_any W5 bp 0 p'.enc p'.hand (by rw [hand_eq]; exact HS5.out.blk) (by rw [Player.length_enc]; omega)).mono ?_
        rintro e W6 ⟨rfl, rfl⟩
        rw [HS5.out.rh.w64, HL4.out]
        go_wp2_with fail
        refine (sum256_ok W6 W6.heap.size a4' L4 c4' hn HX5.out (by omega)).mono ?_
        rintro e W7 ⟨rfl, he7⟩
        rw [← HSM.out]
        have HS7 : Hid (SoAt w bp (.slice a4' L4 c4') v5 hn sdn hn sdn p' W7) := HS5.out.grow (ext_Ext he7)
        clear he7 HS5 HX5
        go_wp2_with fail
        refine wp_region_held_drew (S := fun W' => blk W' W7.heap.size = some (arr u8v sm) ∧ W7.heap.size < W'.heap.size ∧ Hid (SoAt w bp (.slice a4' L4 c4') v5 hn sdn hn sdn p' W')) (by kernel_rfl) ⟨?_, ?_, HS7.out.grow (extends_drew (extends_alloc (ext_Ext (Ext.refl _)) _))⟩ (fun hHeld => ?_)
        · rw [blk_drew, blk_alloc, if_pos rfl]
        · show _ < (W7.alloc _).heap.size
          rw [World.size_alloc]; omega
        refine wpAnyH_take (i := 0) (oi := ⟨_, _, _, _, _, _⟩) (v := ?_) rfl (by kernel_rfl) (by kernel_rfl) (by kernel_rfl) (fun _ _ _ h => h) (Or.inl ⟨by rfl, ?_⟩) (by assumption) ?_
        rotate_left 1
        · intro W' hSw
          obtain ⟨hS1, hS2⟩ := hSw
          go_simp
          try with_reducible rfl
        try simp only [Act.put, List.setIfInBounds_toArray, List.set_cons_zero, List.set_cons_succ]
        refine wpAnyH_take (i := 1) (oi := ⟨_, _, _, _, _, _⟩) (v := ?_) rfl (by kernel_rfl) (by kernel_rfl) (by kernel_rfl) (fun _ _ _ h => h) (Or.inl ⟨by rfl, ?_⟩) (by assumption) ?_
        rotate_left 1
        · intro W' hSw
          obtain ⟨hS1, hS2⟩ := hSw
          go_simp
          try with_reducible rfl
        try simp only [Act.put, List.setIfInBounds_toArray, List.set_cons_zero, List.set_cons_succ]
        refine wpAnyH_take (i := 2) (oi := ⟨_, _, _, _, _, _⟩) (v := ?_) rfl (by kernel_rfl) (by kernel_rfl) (by kernel_rfl) (fun _ _ _ h => h) (Or.inl ⟨by rfl, ?_⟩) (by assumption) ?_
        rotate_left 1
        · intro W' hSw
          obtain ⟨hS1, hS2⟩ := hSw
          go_simp
          try with_reducible rfl
        try simp only [Act.put, List.setIfInBounds_toArray, List.set_cons_zero, List.set_cons_succ]
        refine wpAnyH_take (i := 3) (oi := ⟨_, _, _, _, _, _⟩) (v := ?_) rfl (by kernel_rfl) (by kernel_rfl) (by kernel_rfl) (fun _ _ _ h => h) (Or.inl ⟨by rfl, ?_⟩) (by assumption) ?_
        rotate_left 1
        · intro W' hSw
          obtain ⟨hS1, hS2⟩ := hSw
          go_simp
          try with_reducible rfl
        try simp only [Act.put, List.setIfInBounds_toArray, List.set_cons_zero, List.set_cons_succ]
        refine wpAnyH_take (i := 4) (oi := ⟨_, _, _, _, _, _⟩) (v := ?_) rfl (by kernel_rfl) (by kernel_rfl) (by kernel_rfl) (fun _ _ _ h => h) (Or.inl ⟨by rfl, ?_⟩) (by assumption) ?_
        rotate_left 1
        · intro W' hSw
          obtain ⟨hS1, hS2⟩ := hSw
          go_simp
          try with_reducible rfl
        try simp only [Act.put, List.setIfInBounds_toArray, List.set_cons_zero, List.set_cons_succ]
        refine wpAnyH_ready (rs := [5]) (by kernel_rfl) (by simp) ?_
        refine AllReadyH.cons (o := ⟨_, _, _, _, _, _⟩) rfl (fun K hK => ?_) AllReadyH.nil
        go_simp
        refine (sum_any _ bp 0 p'.enc p'.hand hn (by rw [hand_eq]; exact hHeld.2.2.out.blk) (by rw [Player.length_enc]; omega) hHeld.2.2.out.rh).mono ?_
        rintro e W9 ⟨rfl, he9⟩
        rw [sum_sha _ _ hHeld.2.2.out.rh, ← HSM.out]
        dsimp only
        refine hK.out _ _ ?_ (fun hHeld => ?_)
        · exact ⟨(he9.blk hHeld.2.1).trans hHeld.1, Nat.lt_of_lt_of_le hHeld.2.1 he9.size, hHeld.2.2.out.grow (ext_Ext he9)⟩
        clear hK K
        clear he9
        try simp only [Act.put, List.setIfInBounds_toArray, List.set_cons_zero, List.set_cons_succ]
        refine wpAnyH_take (i := 6) (oi := ⟨_, _, _, _, _, _⟩) (v := ?_) rfl (by kernel_rfl) (by kernel_rfl) (by kernel_rfl) (fun _ _ _ h => h) (Or.inl ⟨by rfl, ?_⟩) (by assumption) ?_
        rotate_left 1
        · intro W' hSw
          obtain ⟨hS1, hS2⟩ := hSw
          go_simp
          try with_reducible rfl
        try simp only [Act.put, List.setIfInBounds_toArray, List.set_cons_zero, List.set_cons_succ]
        refine wpAnyH_take (i := 7) (oi := ⟨_, _, _, _, _, _⟩) (v := ?_) rfl (by kernel_rfl) (by kernel_rfl) (by kernel_rfl) (fun _ _ _ h => h) (Or.inl ⟨by rfl, ?_⟩) (by assumption) ?_
        rotate_left 1
        · intro W' hSw
          obtain ⟨hS1, hS2⟩ := hSw
          go_simp
          try with_reducible rfl
        try simp only [Act.put, List.setIfInBounds_toArray, List.set_cons_zero, List.set_cons_succ]
        refine wpAnyH_done (by kernel_rfl) ?_ _
        go_wp2_with fail
        refine ⟨rfl, rfl, ?_, ?_⟩
        · refine ⟨rfl, rfl, rfl, rfl, i + 1, _, _, hn, sdn, p', by omega, ?_, rfl, rfl, ?_, ?_, hHeld.2.2⟩
          · show Value.int .i64 _ = _
            go_num
          · exact HLN.out
          · exact HLS.out
        · show len - (intOf (Value.int .i64 _)).toNat < len - (intOf (F 16)).toNat
          rw [H16.out]
          simp [intOf]; omega
      by_cases hk6 : op.kind = 6
      · skip
        have HSx : Hid (SoAt w bp v4 v5 hs sd hs sd p W1) := HS1
        obtain ⟨hn, rfl⟩ : ∃ hn, hn = hs := ⟨_, rfl⟩
        obtain ⟨sdn, rfl⟩ : ∃ sdn, sdn = sd := ⟨_, rfl⟩
        have HLN : Hid (hn.length ≤ cap16 (i + 1)) := HC1
        have HLS : Hid (sdn.length ≤ cap16 (i + 1)) := HC2
        obtain ⟨a4, c4, hv4, _⟩ := own_bytes HSx.out.own4 (by omega)
        obtain ⟨L4, hL4⟩ : ∃ L4, L4 = hn.length := ⟨_, rfl⟩
        rw [← hL4] at hv4
        have HL4 : Hid (hn.length = L4) := hL4.symm
        have hLs : L4 ≤ cap16 (i + 1) := by omega
        subst hv4
        clear hL4
        go_wp2_with fail
        refine (step_6 W1 bp p op hn sdn HSx.out.blk HSx.out.free HSx.out.rh HSx.out.ra hk6).mono ?_
        rintro e W3 ⟨p', rfl, ⟨ho3, r1, r2, hlog⟩, hprev, hlast⟩
        have HS3 : Hid (SoAt w bp (.slice a4 L4 c4) v5 hn sdn hn sdn p' W3) := HSx.out.step ho3 r1 r2
        obtain ⟨ans, hans⟩ : ∃ ans, ans = stepAns 0 (sha hn) 0 p' := ⟨_, rfl⟩
        rw [← hans]
        have hcode : ans.code = 0 := by rw [hans]; rfl
        clear ho3 r1 r2 hlog hprev hlast hans HSx
        obtain ⟨sm, hsm⟩ : ∃ sm, sm = sha hn := ⟨_, rfl⟩
        have HSM : Hid (sm = sha hn) := hsm
        clear hsm
        go_wp2_with fail
        refine (sum_any W3 bp 0 p'.enc p'.hand hn (by rw [hand_eq]; exact HS3.out.blk) (by rw [Player.length_enc]; omega) HS3.out.rh).mono ?_
        rintro e W4 ⟨rfl, he4⟩
        rw [sum_sha _ _ HS3.out.rh, ← HSM.out]
        have HS4 : Hid (SoAt w bp (.slice a4 L4 c4) v5 hn sdn hn sdn p' W4) := HS3.out.grow (ext_Ext he4)
        clear he4 HS3
        go_wp2_with fail
        obtain ⟨a4', c4', hv4', hx4⟩ := own_bytes HS4.out.own4 (by have := HL4.out; omega)
        obtain ⟨rfl, h4b, rfl⟩ : a4' = a4 ∧ hn.length = L4 ∧ c4' = c4 := by
          injection hv4' with e1 e2 e3
          exact ⟨e1.symm, e2.symm, e3.symm⟩
        rw [h4b] at hx4
        have HX4 : Hid (BytesAt W4.heap.size W4 a4' L4 c4' hn) := hx4
        clear hx4 hv4' h4b
        refine (msum_any W4 W4.heap.size a4' L4 c4' hn HX4.out (by omega)).mono ?_
        rintro e W5 ⟨rfl, he5⟩
        rw [← HSM.out]
        have HS5 : Hid (SoAt w bp (.slice a4' L4 c4') v5 hn sdn hn sdn p' W5) := HS4.out.grow he5
        have HX5 : Hid (BytesAt W5.heap.size W5 a4' L4 c4' hn) := HX4.out.grow2 he5
        clear he5 HS4 HX4
        have w4 : IntKind.u64.wrap (L4 : Int) = (L4 : Int) := wrap_u64 _ (by omega) (by omega)
        go_wp2_with fail
        refine (hlen_any W5 bp 0 p'.enc p'.hand (by rw [hand_eq]; exact HS5.out.blk) (by rw [Player.length_enc]; omega)).mono ?_
        rintro e W6 ⟨rfl, rfl⟩
        rw [HS5.out.rh.w64, HL4.out]
        go_wp2_with fail
        refine (sum256_ok W6 W6.heap.size a4' L4 c4' hn HX5.out (by omega)).mono ?_
        rintro e W7 ⟨rfl, he7⟩
        rw [← HSM.out]
        have HS7 : Hid (SoAt w bp (.slice a4' L4 c4') v5 hn sdn hn sdn p' W7) := HS5.out.grow (ext_Ext he7)
        clear he7 HS5 HX5
        go_wp2_with fail
        refine wp_region_held_drew (S := fun W' => blk W' W7.heap.size = some (arr u8v sm) ∧ W7.heap.size < W'.heap.size ∧ Hid (SoAt w bp (.slice a4' L4 c4') v5 hn sdn hn sdn p' W')) (by kernel_rfl) ⟨?_, ?_, HS7.out.grow (extends_drew (extends_alloc (ext_Ext (Ext.refl _)) _))⟩ (fun hHeld => ?_)
        · rw [blk_drew, blk_alloc, if_pos rfl]
        · show _ < (W7.alloc _).heap.size
          rw [World.size_alloc]; omega
        refine wpAnyH_take (i := 0) (oi := ⟨_, _, _, _, _, _⟩) (v := ?_) rfl (by kernel_rfl) (by kernel_rfl) (by kernel_rfl) (fun _ _ _ h => h) (Or.inl ⟨by rfl, ?_⟩) (by assumption) ?_
        rotate_left 1
        · intro W' hSw
          obtain ⟨hS1, hS2⟩ := hSw
          go_simp
          try with_reducible rfl
        try simp only [Act.put, List.setIfInBounds_toArray, List.set_cons_zero, List.set_cons_succ]
        refine wpAnyH_take (i := 1) (oi := ⟨_, _, _, _, _, _⟩) (v := ?_) rfl (by kernel_rfl) (by kernel_rfl) (by kernel_rfl) (fun _ _ _ h => h) (Or.inl ⟨by rfl, ?_⟩) (by assumption) ?_
        rotate_left 1
        · intro W' hSw
          obtain ⟨hS1, hS2⟩ := hSw
          go_simp
          try with_reducible rfl
        try simp only [Act.put, List.setIfInBounds_toArray, List.set_cons_zero, List.set_cons_succ]
        refine wpAnyH_take (i := 2) (oi := ⟨_, _, _, _, _, _⟩) (v := ?_) rfl (by kernel_rfl) (by kernel_rfl) (by kernel_rfl) (fun _ _ _ h => h) (Or.inl ⟨by rfl, ?_⟩) (by assumption) ?_
        rotate_left 1
        · intro W' hSw
          obtain ⟨hS1, hS2⟩ := hSw
          go_simp
          try with_reducible rfl
        try simp only [Act.put, List.setIfInBounds_toArray, List.set_cons_zero, List.set_cons_succ]
        refine wpAnyH_take (i := 3) (oi := ⟨_, _, _, _, _, _⟩) (v := ?_) rfl (by kernel_rfl) (by kernel_rfl) (by kernel_rfl) (fun _ _ _ h => h) (Or.inl ⟨by rfl, ?_⟩) (by assumption) ?_
        rotate_left 1
        · intro W' hSw
          obtain ⟨hS1, hS2⟩ := hSw
          go_simp
          try with_reducible rfl
        try simp only [Act.put, List.setIfInBounds_toArray, List.set_cons_zero, List.set_cons_succ]
        refine wpAnyH_take (i := 4) (oi := ⟨_, _, _, _, _, _⟩) (v := ?_) rfl (by kernel_rfl) (by kernel_rfl) (by kernel_rfl) (fun _ _ _ h => h) (Or.inl ⟨by rfl, ?_⟩) (by assumption) ?_
        rotate_left 1
        · intro W' hSw
          obtain ⟨hS1, hS2⟩ := hSw
          go_simp
          try with_reducible rfl
        try simp only [Act.put, List.setIfInBounds_toArray, List.set_cons_zero, List.set_cons_succ]
        refine wpAnyH_ready (rs := [5]) (by kernel_rfl) (by simp) ?_
        refine AllReadyH.cons (o := ⟨_, _, _, _, _, _⟩) rfl (fun K hK => ?_) AllReadyH.nil
        go_simp
        refine (sum_any _ bp 0 p'.enc p'.hand hn (by rw [hand_eq]; exact hHeld.2.2.out.blk) (by rw [Player.length_enc]; omega) hHeld.2.2.out.rh).mono ?_
        rintro e W9 ⟨rfl, he9⟩
        rw [sum_sha _ _ hHeld.2.2.out.rh, ← HSM.out]
        dsimp only
        refine hK.out _ _ ?_ (fun hHeld => ?_)
        · exact ⟨(he9.blk hHeld.2.1).trans hHeld.1, Nat.lt_of_lt_of_le hHeld.2.1 he9.size, hHeld.2.2.out.grow (ext_Ext he9)⟩
        clear hK K
        clear he9
        try simp only [Act.put, List.setIfInBounds_toArray, List.set_cons_zero, List.set_cons_succ]
        refine wpAnyH_take (i := 6) (oi := ⟨_, _, _, _, _, _⟩) (v := ?_) rfl (by kernel_rfl) (by kernel_rfl) (by kernel_rfl) (fun _ _ _ h => h) (Or.inl ⟨by rfl, ?_⟩) (by assumption) ?_
        rotate_left 1
        · intro W' hSw
          obtain ⟨hS1, hS2⟩ := hSw
          go_simp
          try with_reducible rfl
        try simp only [Act.put, List.setIfInBounds_toArray, List.set_cons_zero, List.set_cons_succ]
        refine wpAnyH_take (i := 7) (oi := ⟨_, _, _, _, _, _⟩) (v := ?_) rfl (by kernel_rfl) (by kernel_rfl) (by kernel_rfl) (fun _ _ _ h => h) (Or.inl ⟨by rfl, ?_⟩) (by assumption) ?_
        rotate_left 1
        · intro W' hSw
          obtain ⟨hS1, hS2⟩ := hSw
          go_simp
          try with_reducible rfl
        try simp only [Act.put, List.setIfInBounds_toArray, List.set_cons_zero, List.set_cons_succ]
        refine wpAnyH_done (by kernel_rfl) ?_ _
        go_wp2_with fail
        refine ⟨rfl, rfl, ?_, ?_⟩
        · refine ⟨rfl, rfl, rfl, rfl, i + 1, _, _, hn, sdn, p', by omega, ?_, rfl, rfl, ?_, ?_, hHeld.2.2⟩
          · show Value.int .i64 _ = _
            go_num
          · exact HLN.out
          · exact HLS.out
        · show len - (intOf (Value.int .i64 _)).toNat < len - (intOf (F 16)).toNat
          rw [H16.out]
          simp [intOf]; omega
      by_cases hk7 : op.kind = 7
      · skip
        obtain ⟨hn, hhn⟩ : ∃ hn : List UInt8, hn = [] := ⟨_, rfl⟩
        obtain ⟨sdn, rfl⟩ : ∃ sdn, sdn = sd := ⟨_, rfl⟩
        have HLN : Hid (hn.length ≤ cap16 (i + 1)) := by show _ ≤ _; rw [hhn]; simp
        have HLS : Hid (sdn.length ≤ cap16 (i + 1)) := HC2
        have HSx0 : SoAt w bp (.slice none 0 0) v5 [] sdn hs sdn p W1 := HS1.out.nil
        rw [← hhn] at HSx0
        have HSx : Hid (SoAt w bp (.slice none 0 0) v5 hn sdn hs sdn p W1) := HSx0
        have HL4z : hn.length = 0 := by rw [hhn]; rfl
        clear HSx0
        obtain ⟨a4, ha4⟩ : ∃ a4 : Option Addr, a4 = none := ⟨_, rfl⟩
        obtain ⟨L4, hL40⟩ : ∃ L4 : Nat, L4 = 0 := ⟨_, rfl⟩
        obtain ⟨c4, hc4⟩ : ∃ c4 : Nat, c4 = 0 := ⟨_, rfl⟩
        have hv : Value.slice none 0 0 = .slice a4 L4 c4 := by rw [ha4, hL40, hc4]
        have HL4 : Hid (hn.length = L4) := by show _ = _; rw [HL4z, hL40]
        rw [hv] at HSx
        have hLs : L4 ≤ cap16 (i + 1) := by omega
        have HV : Hid (Value.slice none 0 0 = .slice a4 L4 c4) := hv
        clear ha4 hL40 hc4 hv HL4z
        go_upto_region 25 with fail
        rw [HV.out]
        go_wp2_with fail
        refine (step_7 W1 bp p op hs sdn HSx.out.blk HSx.out.free HSx.out.rh HSx.out.ra hk7).mono ?_
        rintro e W3 ⟨p', rfl, ⟨ho3, r1, r2, hlog⟩, hprev, hlast⟩
        rw [← hhn] at r1
        have HS3 : Hid (SoAt w bp (.slice a4 L4 c4) v5 hn sdn hn sdn p' W3) := HSx.out.step ho3 r1 r2
        obtain ⟨ans, hans⟩ : ∃ ans, ans = stepAns 0 Z32 0 p' := ⟨_, rfl⟩
        rw [← hans]
        have hcode : ans.code = 0 := by rw [hans]; rfl
        clear ho3 r1 r2 hlog hprev hlast hans HSx
        obtain ⟨sm, hsm⟩ : ∃ sm, sm = sha hn := ⟨_, rfl⟩
        have HSM : Hid (sm = sha hn) := hsm
        clear hsm
        go_wp2_with fail
        refine (sum_any W3 bp 0 p'.enc p'.hand hn (by rw [hand_eq]; exact HS3.out.blk) (by rw [Player.length_enc]; omega) HS3.out.rh).mono ?_
        rintro e W4 ⟨rfl, he4⟩
        rw [sum_sha _ _ HS3.out.rh, ← HSM.out]
        have HS4 : Hid (SoAt w bp (.slice a4 L4 c4) v5 hn sdn hn sdn p' W4) := HS3.out.grow (ext_Ext he4)
        clear he4 HS3
        go_wp2_with fail
        obtain ⟨a4', c4', hv4', hx4⟩ := own_bytes HS4.out.own4 (by have := HL4.out; omega)
        obtain ⟨rfl, h4b, rfl⟩ : a4' = a4 ∧ hn.length = L4 ∧ c4' = c4 := by
          injection hv4' with e1 e2 e3
          exact ⟨e1.symm, e2.symm, e3.symm⟩
        rw [h4b] at hx4
        have HX4 : Hid (BytesAt W4.heap.size W4 a4' L4 c4' hn) := hx4
        clear hx4 hv4' h4b
        refine (msum_any W4 W4.heap.size a4' L4 c4' hn HX4.out (by omega)).mono ?_
        rintro e W5 ⟨rfl, he5⟩
        rw [← HSM.out]
        have HS5 : Hid (SoAt w bp (.slice a4' L4 c4') v5 hn sdn hn sdn p' W5) := HS4.out.grow he5
        have HX5 : Hid (BytesAt W5.heap.size W5 a4' L4 c4' hn) := HX4.out.grow2 he5
        clear he5 HS4 HX4
        have w4 : IntKind.u64.wrap (L4 : Int) = (L4 : Int) := wrap_u64 _ (by omega) (by omega)
        go_wp2_with fail
        refine (hlen_any W5 bp 0 p'.enc p'.hand (by rw [hand_eq]; exact HS5.out.blk) (by rw [Player.length_enc]; omega)).mono ?_
        rintro e W6 ⟨rfl, rfl⟩
        rw [HS5.out.rh.w64, HL4.out]
        go_wp2_with fail
        refine (sum256_ok W6 W6.heap.size a4' L4 c4' hn HX5.out (by omega)).mono ?_
        rintro e W7 ⟨rfl, he7⟩
        rw [← HSM.out]
        have HS7 : Hid (SoAt w bp (.slice a4' L4 c4') v5 hn sdn hn sdn p' W7) := HS5.out.grow (ext_Ext he7)
        clear he7 HS5 HX5
        go_wp2_with fail
        refine wp_region_held_drew (S := fun W' => blk W' W7.heap.size = some (arr u8v sm) ∧ W7.heap.size < W'.heap.size ∧ Hid (SoAt w bp (.slice a4' L4 c4') v5 hn sdn hn sdn p' W')) (by kernel_rfl) ⟨?_, ?_, HS7.out.grow (extends_drew (extends_alloc (ext_Ext (Ext.refl _)) _))⟩ (fun hHeld => ?_)
        · rw [blk_drew, blk_alloc, if_pos rfl]
        · show _ < (W7.alloc _).heap.size
          rw [World.size_alloc]; omega
        refine wpAnyH_take (i := 0) (oi := ⟨_, _, _, _, _, _⟩) (v := ?_) rfl (by kernel_rfl) (by kernel_rfl) (by kernel_rfl) (fun _ _ _ h => h) (Or.inl ⟨by rfl, ?_⟩) (by assumption) ?_
        rotate_left 1
        · intro W' hSw
          obtain ⟨hS1, hS2⟩ := hSw
          go_simp
          try with_reducible rfl
        try simp only [Act.put, List.setIfInBounds_toArray, List.set_cons_zero, List.set_cons_succ]
        refine wpAnyH_take (i := 1) (oi := ⟨_, _, _, _, _, _⟩) (v := ?_) rfl (by kernel_rfl) (by kernel_rfl) (by kernel_rfl) (fun _ _ _ h => h) (Or.inl ⟨by rfl, ?_⟩) (by assumption) ?_
        rotate_left 1
        · intro W' hSw
          obtain ⟨hS1, hS2⟩ := hSw
          go_simp
          try with_reducible rfl
        try simp only [Act.put, List.setIfInBounds_toArray, List.set_cons_zero, List.set_cons_succ]
        refine wpAnyH_take (i := 2) (oi := ⟨_, _, _, _, _, _⟩) (v := ?_) rfl (by kernel_rfl) (by kernel_rfl) (by kernel_rfl) (fun _ _ _ h => h) (Or.inl ⟨by rfl, ?_⟩) (by assumption) ?_
        rotate_left 1
        · intro W' hSw
          obtain ⟨hS1, hS2⟩ := hSw
          go_simp
          try with_reducible rfl
        try simp only [Act.put, List.setIfInBounds_toArray, List.set_cons_zero, List.set_cons_succ]
        refine wpAnyH_take (i := 3) (oi := ⟨_, _, _, _, _, _⟩) (v := ?_) rfl (by kernel_rfl) (by kernel_rfl) (by kernel_rfl) (fun _ _ _ h => h) (Or.inl ⟨by rfl, ?_⟩) (by assumption) ?_
        rotate_left 1
        · intro W' hSw
          obtain ⟨hS1, hS2⟩ := hSw
          go_simp
          try with_reducible rfl
        try simp only [Act.put, List.setIfInBounds_toArray, List.set_cons_zero, List.set_cons_succ]
        refine wpAnyH_take (i := 4) (oi := ⟨_, _, _, _, _, _⟩) (v := ?_) rfl (by kernel_rfl) (by kernel_rfl) (by kernel_rfl) (fun _ _ _ h => h) (Or.inl ⟨by rfl, ?_⟩) (by assumption) ?_
        rotate_left 1
        · intro W' hSw
          obtain ⟨hS1, hS2⟩ := hSw
          go_simp
          try with_reducible rfl
        try simp only [Act.put, List.setIfInBounds_toArray, List.set_cons_zero, List.set_cons_succ]
        refine wpAnyH_ready (rs := [5]) (by kernel_rfl) (by simp) ?_
        refine AllReadyH.cons (o := ⟨_, _, _, _, _, _⟩) rfl (fun K hK => ?_) AllReadyH.nil
        go_simp
        refine (sum_any _ bp 0 p'.enc p'.hand hn (by rw [hand_eq]; exact hHeld.2.2.out.blk) (by rw [Player.length_enc]; omega) hHeld.2.2.out.rh).mono ?_
        rintro e W9 ⟨rfl, he9⟩
        rw [sum_sha _ _ hHeld.2.2.out.rh, ← HSM.out]
        dsimp only
        refine hK.out _ _ ?_ (fun hHeld => ?_)
        · exact ⟨(he9.blk hHeld.2.1).trans hHeld.1, Nat.lt_of_lt_of_le hHeld.2.1 he9.size, hHeld.2.2.out.grow (ext_Ext he9)⟩
        clear hK K
        clear he9
        try simp only [Act.put, List.setIfInBounds_toArray, List.set_cons_zero, List.set_cons_succ]
        refine wpAnyH_take (i := 6) (oi := ⟨_, _, _, _, _, _⟩) (v := ?_) rfl (by kernel_rfl) (by kernel_rfl) (by kernel_rfl) (fun _ _ _ h => h) (Or.inl ⟨by rfl, ?_⟩) (by assumption) ?_
        rotate_left 1
        · intro W' hSw
          obtain ⟨hS1, hS2⟩ := hSw
          go_simp
          try with_reducible rfl
        try simp only [Act.put, List.setIfInBounds_toArray, List.set_cons_zero, List.set_cons_succ]
        refine wpAnyH_take (i := 7) (oi := ⟨_, _, _, _, _, _⟩) (v := ?_) rfl (by kernel_rfl) (by kernel_rfl) (by kernel_rfl) (fun _ _ _ h => h) (Or.inl ⟨by rfl, ?_⟩) (by assumption) ?_
        rotate_left 1
        · intro W' hSw
          obtain ⟨hS1, hS2⟩ := hSw
          go_simp
          try with_reducible rfl
        try simp only [Act.put, List.setIfInBounds_toArray, List.set_cons_zero, List.set_cons_succ]
        refine wpAnyH_done (by kernel_rfl) ?_ _
        go_wp2_with fail
        refine ⟨rfl, rfl, ?_, ?_⟩
        · refine ⟨rfl, rfl, rfl, rfl, i + 1, _, _, hn, sdn, p', by omega, ?_, rfl, rfl, ?_, ?_, hHeld.2.2⟩
          · show Value.int .i64 _ = _
            go_num
          · exact HLN.out
          · exact HLS.out
        · show len - (intOf (Value.int .i64 _)).toNat < len - (intOf (F 16)).toNat
          rw [H16.out]
          simp [intOf]; omega
      by_cases hk8 : op.kind = 8
      · skip
        obtain ⟨hn, rfl⟩ : ∃ hn, hn = sd := ⟨_, rfl⟩
        obtain ⟨sdn, rfl⟩ : ∃ sdn, sdn = hs := ⟨_, rfl⟩
        have HSx : Hid (SoAt w bp v5 v4 hn sdn sdn hn p W1) := HS1.out.swap
        have HLN : Hid (hn.length ≤ cap16 (i + 1)) := HC2
        have HLS : Hid (sdn.length ≤ cap16 (i + 1)) := HC1
        obtain ⟨a4, c4, hv4, _⟩ := own_bytes HSx.out.own4 (by omega)
        obtain ⟨L4, hL4⟩ : ∃ L4, L4 = hn.length := ⟨_, rfl⟩
        rw [← hL4] at hv4
        have HL4 : Hid (hn.length = L4) := hL4.symm
        have hLs : L4 ≤ cap16 (i + 1) := by omega
        subst hv4
        clear hL4
        go_wp2_with fail
        refine (step_8 W1 bp p op sdn hn HSx.out.blk HSx.out.free HSx.out.rh HSx.out.ra hk8).mono ?_
        rintro e W3 ⟨p', rfl, ⟨ho3, r1, r2, hlog⟩, hprev, hlast⟩
        have HS3 : Hid (SoAt w bp (.slice a4 L4 c4) v4 hn sdn hn sdn p' W3) := HSx.out.step ho3 r1 r2
        obtain ⟨ans, hans⟩ : ∃ ans, ans = stepAns 0 Z32 0 p' := ⟨_, rfl⟩
        rw [← hans]
        have hcode : ans.code = 0 := by rw [hans]; rfl
        clear ho3 r1 r2 hlog hprev hlast hans HSx
        obtain ⟨sm, hsm⟩ : ∃ sm, sm = sha hn := ⟨_, rfl⟩
        have HSM : Hid (sm = sha hn) := hsm
        clear hsm
        go_wp2_with fail
        refine (sum_any W3 bp 0 p'.enc p'.hand hn (by rw [hand_eq]; exact HS3.out.blk) (by rw [Player.length_enc]; omega) HS3.out.rh).mono ?_
        rintro e W4 ⟨rfl, he4⟩
        rw [sum_sha _ _ HS3.out.rh, ← HSM.out]
        have HS4 : Hid (SoAt w bp (.slice a4 L4 c4) v4 hn sdn hn sdn p' W4) := HS3.out.grow (ext_Ext he4)
        clear he4 HS3
        go_wp2_with fail
        obtain ⟨a4', c4', hv4', hx4⟩ := own_bytes HS4.out.own4 (by have := HL4.out; omega)
        obtain ⟨rfl, h4b, rfl⟩ : a4' = a4 ∧ hn.length = L4 ∧ c4' = c4 := by
          injection hv4' with e1 e2 e3
          exact ⟨e1.symm, e2.symm, e3.symm⟩
        rw [h4b] at hx4
        have HX4 : Hid (BytesAt W4.heap.size W4 a4' L4 c4' hn) := hx4
        clear hx4 hv4' h4b
        refine (msum_any W4 W4.heap.size a4' L4 c4' hn HX4.out (by omega)).mono ?_
        rintro e W5 ⟨rfl, he5⟩
        rw [← HSM.out]
        have HS5 : Hid (SoAt w bp (.slice a4' L4 c4') v4 hn sdn hn sdn p' W5) := HS4.out.grow he5
        have HX5 : Hid (BytesAt W5.heap.size W5 a4' L4 c4' hn) := HX4.out.grow2 he5
        clear he5 HS4 HX4
        have w4 : IntKind.u64.wrap (L4 : Int) = (L4 : Int) := wrap_u64 _ (by omega) (by omega)
        go_wp2_with fail
        refine (hlen_any W5 bp 0 p'.enc p'.hand (by rw [hand_eq]; exact HS5.out.blk) (by rw [Player.length_enc]; omega)).mono ?_
        rintro e W6 ⟨rfl, rfl⟩
        rw [HS5.out.rh.w64, HL4.out]
        go_wp2_with fail
        refine (sum256_ok W6 W6.heap.size a4' L4 c4' hn HX5.out (by omega)).mono ?_
        rintro e W7 ⟨rfl, he7⟩
        rw [← HSM.out]
        have HS7 : Hid (SoAt w bp (.slice a4' L4 c4') v4 hn sdn hn sdn p' W7) := HS5.out.grow (ext_Ext he7)
        clear he7 HS5 HX5
        go_wp2_with fail
        refine wp_region_held_drew (S := fun W' => blk W' W7.heap.size = some (arr u8v sm) ∧ W7.heap.size < W'.heap.size ∧ Hid (SoAt w bp (.slice a4' L4 c4') v4 hn sdn hn sdn p' W')) (by kernel_rfl) ⟨?_, ?_, HS7.out.grow (extends_drew (extends_alloc (ext_Ext (Ext.refl _)) _))⟩ (fun hHeld => ?_)
        · rw [blk_drew, blk_alloc, if_pos rfl]
        · show _ < (W7.alloc _).heap.size
          rw [World.size_alloc]; omega
        refine wpAnyH_take (i := 0) (oi := ⟨_, _, _, _, _, _⟩) (v := ?_) rfl (by kernel_rfl) (by kernel_rfl) (by kernel_rfl) (fun _ _ _ h => h) (Or.inl ⟨by rfl, ?_⟩) (by assumption) ?_
        rotate_left 1
        · intro W' hSw
          obtain ⟨hS1, hS2⟩ := hSw
          go_simp
          try with_reducible rfl
        try simp only [Act.put, List.setIfInBounds_toArray, List.set_cons_zero, List.set_cons_succ]
        refine wpAnyH_take (i := 1) (oi := ⟨_, _, _, _, _, _⟩) (v := ?_) rfl (by kernel_rfl) (by kernel_rfl) (by kernel_rfl) (fun _ _ _ h => h) (Or.inl ⟨by rfl, ?_⟩) (by assumption) ?_
        rotate_left 1
        · intro W' hSw
          obtain ⟨hS1, hS2⟩ := hSw
          go_simp
          try with_reducible rfl
        try simp only [Act.put, List.setIfInBounds_toArray, List.set_cons_zero, List.set_cons_succ]
        refine wpAnyH_take (i := 2) (oi := ⟨_, _, _, _, _, _⟩) (v := ?_) rfl (by kernel_rfl) (by kernel_rfl) (by kernel_rfl) (fun _ _ _ h => h) (Or.inl ⟨by rfl, ?_⟩) (by assumption) ?_
        rotate_left 1
        · intro W' hSw
          obtain ⟨hS1, hS2⟩ := hSw
          go_simp
          try with_reducible rfl
        try simp only [Act.put, List.setIfInBounds_toArray, List.set_cons_zero, List.set_cons_succ]
        refine wpAnyH_take (i := 3) (oi := ⟨_, _, _, _, _, _⟩) (v := ?_) rfl (by kernel_rfl) (by kernel_rfl) (by kernel_rfl) (fun _ _ _ h => h) (Or.inl ⟨by rfl, ?_⟩) (by assumption) ?_
        rotate_left 1
        · intro W' hSw
          obtain ⟨hS1, hS2⟩ := hSw
          go_simp
          try with_reducible rfl
        try simp only [Act.put, List.setIfInBounds_toArray, List.set_cons_zero, List.set_cons_succ]
        refine wpAnyH_take (i := 4) (oi := ⟨_, _, _, _, _, _⟩) (v := ?_) rfl (by kernel_rfl) (by kernel_rfl) (by kernel_rfl) (fun _ _ _ h => h) (Or.inl ⟨by rfl, ?_⟩) (by assumption) ?_
        rotate_left 1
        · intro W' hSw
          obtain ⟨hS1, hS2⟩ := hSw
          go_simp
          try with_reducible rfl
        try simp only [Act.put, List.setIfInBounds_toArray, List.set_cons_zero, List.set_cons_succ]
        refine wpAnyH_ready (rs := [5]) (by kernel_rfl) (by simp) ?_
        refine AllReadyH.cons (o := ⟨_, _, _, _, _, _⟩) rfl (fun K hK => ?_) AllReadyH.nil
        go_simp
        refine (sum_any _ bp 0 p'.enc p'.hand hn (by rw [hand_eq]; exact hHeld.2.2.out.blk) (by rw [Player.length_enc]; omega) hHeld.2.2.out.rh).mono ?_
        rintro e W9 ⟨rfl, he9⟩
        rw [sum_sha _ _ hHeld.2.2.out.rh, ← HSM.out]
        dsimp only
        refine hK.out _ _ ?_ (fun hHeld => ?_)
        · exact ⟨(he9.blk hHeld.2.1).trans hHeld.1, Nat.lt_of_lt_of_le hHeld.2.1 he9.size, hHeld.2.2.out.grow (ext_Ext he9)⟩
        clear hK K
        clear he9
        try simp only [Act.put, List.setIfInBounds_toArray, List.set_cons_zero, List.set_cons_succ]
        refine wpAnyH_take (i := 6) (oi := ⟨_, _, _, _, _, _⟩) (v := ?_) rfl (by kernel_rfl) (by kernel_rfl) (by kernel_rfl) (fun _ _ _ h => h) (Or.inl ⟨by rfl, ?_⟩) (by assumption) ?_
        rotate_left 1
        · intro W' hSw
          obtain ⟨hS1, hS2⟩ := hSw
          go_simp
          try with_reducible rfl
        try simp only [Act.put, List.setIfInBounds_toArray, List.set_cons_zero, List.set_cons_succ]
        refine wpAnyH_take (i := 7) (oi := ⟨_, _, _, _, _, _⟩) (v := ?_) rfl (by kernel_rfl) (by kernel_rfl) (by kernel_rfl) (fun _ _ _ h => h) (Or.inl ⟨by rfl, ?_⟩) (by assumption) ?_
        rotate_left 1
        · intro W' hSw
          obtain ⟨hS1, hS2⟩ := hSw
          go_simp
          try with_reducible rfl
        try simp only [Act.put, List.setIfInBounds_toArray, List.set_cons_zero, List.set_cons_succ]
        refine wpAnyH_done (by kernel_rfl) ?_ _
        go_wp2_with fail
        refine ⟨rfl, rfl, ?_, ?_⟩
        · refine ⟨rfl, rfl, rfl, rfl, i + 1, _, _, hn, sdn, p', by omega, ?_, rfl, rfl, ?_, ?_, hHeld.2.2⟩
          · show Value.int .i64 _ = _
            go_num
          · exact HLN.out
          · exact HLS.out
        · show len - (intOf (Value.int .i64 _)).toNat < len - (intOf (F 16)).toNat
          rw [H16.out]
          simp [intOf]; omega
      go_wp2_with fail
      refine ⟨rfl, rfl, ?_, ?_⟩
      · refine ⟨rfl, rfl, rfl, rfl, i + 1, _, _, hs, sd, p, by omega, ?_, rfl, rfl, HC1.out, HC2.out, HS1⟩
        show Value.int .i64 _ = _
        go_num
      · show len - (intOf (Value.int .i64 _)).toNat < len - (intOf (F 16)).toNat
        rw [H16.out]
        simp [intOf]; omega
    · obtain rfl : i = len := by omega
      obtain ⟨a5, c5, hv5, hx5⟩ := own_bytes HSO.out.own5 (by omega)
      obtain ⟨L5, hL5⟩ : ∃ L5, L5 = sd.length := ⟨_, rfl⟩
      rw [← hL5] at hv5 hx5
      subst hv5
      have HX5 : Hid (BytesAt W.heap.size W a5 L5 c5 sd) := hx5
      have hL5s : L5 ≤ 4295032832 := by omega
      clear hx5 hL5
      go_wp2_with fail
      refine (sum_any W bp 74 p.enc p.aside sd (by rw [aside_eq]; exact HSO.out.blk) (by rw [Player.length_enc]; omega) HSO.out.ra).mono ?_
      rintro e W2 ⟨rfl, he2⟩
      rw [sum_sha _ _ HSO.out.ra]
      have HS2 : Hid (w.Extends W2) := HSO.out.ext.trans (ext_Ext he2)
      have HX2 : Hid (BytesAt W2.heap.size W2 a5 L5 c5 sd) := HX5.out.grow2 (ext_Ext he2)
      clear he2
      go_wp2_with fail
      refine (msum_any W2 W2.heap.size a5 L5 c5 sd HX2.out (by omega)).mono ?_
      rintro e W3 ⟨rfl, he3⟩
      have HS3 : Hid (w.Extends W3) := HS2.out.trans he3
      clear he3
      go_wp2_with fail
      go_ret
      refine ⟨?_, ?_⟩
      · simp
      · rw [← hw]; exact HS3.out
end Go.Proofs.Qxb6500785a
