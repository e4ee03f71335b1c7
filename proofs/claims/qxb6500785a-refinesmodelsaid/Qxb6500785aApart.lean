import Derived.Test.Qxb6500785aSmall
import Derived.Test.Qxb6500785aKnown
import Derived.Deep.RegionHeld
import Derived.Deep.CutRange
import Derived.Laws.ResultCell
import Derived.Laws.Rows
set_option linter.unusedSimpArgs false
set_option linter.unusedVariables false
namespace Go.Proofs.Qxb6500785a
open Go.RowKit Go.Blk
attribute [local go_sem ↓] execOp_load execOp_store execOp_alloc
attribute [local go_sem] Try.ld24 Try.st24 Try.ld5 Try.st5 Try.ld3 Try.st3 Try.ld27 Try.st27 Try.ld32 Try.st32 Try.ld33 Try.st33 Try.ld4 Try.st4 Try.ld41 Try.st41 Try.ld40 Try.st40 Try.ld42 Try.st42 Try.ld47 Try.st47 Try.ld48 Try.st48 Try.ld57 Try.st57 Try.ld58 Try.st58 Try.ld2 Try.st2 Try.ld9 Try.st9 Try.ld12 Try.st12 Try.ld21 Try.st21 Try.ld22 Try.st22 Try.ld46 Try.st46 Try.ld83 Try.st83 Try.ld95 Try.st95 Try.ld99 Try.st99 Try.ld106 Try.st106 Try.ld108 Try.st108 Try.ld134 Try.st134 Try.ld25 Try.st25 Try.ld26 Try.st26 Try.ld34 Try.st34 Try.ld31 Try.st31 Try.ld30 Try.st30 Try.ld74 Try.st74 Try.ld96 Try.st96 Try.ld101 Try.st101 Try.ld115 Try.st115 Try.ld116 Try.st116 Try.ld120 Try.st120 Try.ld121 Try.st121 Try.ld122 Try.st122 Try.ld29 Try.st29 Try.ld36 Try.st36 Try.ld38 Try.st38 Try.ld44 Try.st44 Try.ld50 Try.st50 Try.ld60 Try.st60 Try.ld110 Try.st110 Try.al25 Try.al26 Try.al34 Try.al31 Try.al30 Try.al74 Try.al96 Try.al101 Try.al115 Try.al116 Try.al120 Try.al121 Try.al122 Try.al29 Try.al36 Try.al38 Try.al44 Try.al50 Try.al60 Try.al110
attribute [local go_sem] Hasher.length_enc Hasher.ok_enc Hasher.all_get Hasher.all_set Hasher.state_get Hasher.state_set Hasher.block_get Hasher.block_set Hasher.fill_get Hasher.fill_set Hasher.length_get Hasher.length_set GLog.length_enc GLog.ok_enc GLog.all_get GLog.all_set GLog.entries_get GLog.entries_set GLog.shelves_get GLog.shelves_set GLog.first_get GLog.first_set GLog.second_get GLog.second_set GLog.found_get GLog.found_set Player.length_enc Player.ok_enc Player.all_get Player.all_set Player.hand_get Player.hand_set Player.aside_get Player.aside_set Player.prev_get Player.prev_set Player.last_get Player.last_set Player.log_get Player.log_set Player.hand_state_get Player.hand_state_set Player.hand_block_get Player.hand_block_set Player.hand_fill_get Player.hand_fill_set Player.hand_length_get Player.hand_length_set Player.aside_state_get Player.aside_state_set Player.aside_block_get Player.aside_block_set Player.aside_fill_get Player.aside_fill_set Player.aside_length_get Player.aside_length_set Player.log_entries_get Player.log_entries_set Player.log_shelves_get Player.log_shelves_set Player.log_first_get Player.log_first_set Player.log_second_get Player.log_second_set Player.log_found_get Player.log_found_set GOp.length_enc GOp.ok_enc GOp.all_get GOp.all_set GOp.kind_get GOp.kind_set GOp.data_get GOp.data_set GOp.cut_get GOp.cut_set GOp.n_get GOp.n_set GOp.b_get GOp.b_set GOp.v_get GOp.v_set GOp.dom_get GOp.dom_set GOp.sum_get GOp.sum_set Answer.length_enc Answer.ok_enc Answer.all_get Answer.all_set Answer.code_get Answer.code_set Answer.sum_get Answer.sum_set Answer.len_get Answer.len_set Answer.mark_get Answer.mark_set Answer.noted_get Answer.noted_set Answer.collided_get Answer.collided_set GState.length_enc GState.ok_enc GState.all_get GState.all_set GState.hand_get GState.hand_set GState.aside_get GState.aside_set GState.prev_get GState.prev_set GState.last_get GState.last_set GState.inputs_get GState.inputs_set GState.sums_get GState.sums_set GState.collided_get GState.collided_set GState.older_get GState.older_set GState.younger_get GState.younger_set Noted.length_enc Noted.ok_enc Noted.all_get Noted.all_set Noted.input_get Noted.input_set Noted.sum_get Noted.sum_set
attribute [local go_sem] size_put size_ext blk_put free_put blk_alloc free_alloc blk_drew free_drew blk_ext free_ext lookOr_some putOr_some segAt_some cellAt_some storeIn_some put_put put_alloc_new length_arr ok_arr_u8 ok_arr_u32 ok_arr_u64 ok_arr_i64 ok_arr_sl cellsV_agg cellsV_int cellsV_bool cellsV_string cellsV_pointer cellsV_slice cellsV_sl ok_int ok_bool ok_string ok_pointer ok_slice ok_sl toList_arr seg_arr set_arr nth_splice nth_splice0 seg_splice seg_splice0 splice_splice splice_splice0 length_splice_if
attribute [local go_sem] w32_and w32_or w32_xor w32_add w32_or8 w32_not w8_and w8_or w8_xor w32_shr2 w32_shl2 w32_shr3 w32_shl3 w32_shr6 w32_shl6 w32_shr7 w32_shl7 w32_shr8 w32_shl8 w32_shr10 w32_shl10 w32_shr11 w32_shl11 w32_shr13 w32_shl13 w32_shr14 w32_shl14 w32_shr15 w32_shl15 w32_shr16 w32_shl16 w32_shr17 w32_shl17 w32_shr18 w32_shl18 w32_shr19 w32_shl19 w32_shr21 w32_shl21 w32_shr22 w32_shl22 w32_shr24 w32_shl24 w32_shr25 w32_shl25 w32_shr26 w32_shl26 w32_shr30 w32_shl30 w8_shl24 w8_shl16 w8_shl8 v32_add v32_byte w32_byte0 v8_shl24 v8_shl16 v8_shl8 v32_shr2 v32_shl2 v32_shr3 v32_shl3 v32_shr6 v32_shl6 v32_shr7 v32_shl7 v32_shr8 v32_shl8 v32_shr10 v32_shl10 v32_shr11 v32_shl11 v32_shr13 v32_shl13 v32_shr14 v32_shl14 v32_shr15 v32_shl15 v32_shr16 v32_shl16 v32_shr17 v32_shl17 v32_shr18 v32_shl18 v32_shr19 v32_shl19 v32_shr21 v32_shl21 v32_shr22 v32_shl22 v32_shr24 v32_shl24 v32_shr25 v32_shl25 v32_shr26 v32_shl26 v32_shr30 v32_shl30
attribute [local go_sem ↓] execOp_build
attribute [local go_sem] run_build_kv run_build_iv nth_arr_u32 put_arr_u32 nth_arr_u8 put_arr_u8 v32_of8 blk_drewN free_drewN put_drewN put_drew blk_raw free_raw
attribute [local go_sem ↓] execOp_slice execOp_copy
attribute [local go_sem] Try.sl40lo Try.sl40hi Try.sl26lo Try.sl26hi Try.sl26 Try.sl96lo Try.sl96hi Try.sl96 Try.sl31lo Try.sl31 Try.sl120 Try.sl121 Try.sl121lo Try.sl121hi Try.cp40 copyOr_some copyIn_some srcB_drew srcB_drewN srcB_raw length_bv one_bv
attribute [local go_sem] Hasher.length_zero
attribute [local go_sem] Try.cpv copyOrV_some
attribute [local go_sem ↓] execOp_index execOp_convert execOp_box execOp_convert9
attribute [local go_sem] index_hex box_run conv_bytes eq31
attribute [local go_sem] build31
set_option maxRecDepth 100000 in
theorem frame96 (f : Nat → Value) : frameN 96 f = #[f 0, f 1, f 2, f 3, f 4, f 5, f 6, f 7, f 8, f 9, f 10, f 11, f 12, f 13, f 14, f 15, f 16, f 17, f 18, f 19, f 20, f 21, f 22, f 23, f 24, f 25, f 26, f 27, f 28, f 29, f 30, f 31, f 32, f 33, f 34, f 35, f 36, f 37, f 38, f 39, f 40, f 41, f 42, f 43, f 44, f 45, f 46, f 47, f 48, f 49, f 50, f 51, f 52, f 53, f 54, f 55, f 56, f 57, f 58, f 59, f 60, f 61, f 62, f 63, f 64, f 65, f 66, f 67, f 68, f 69, f 70, f 71, f 72, f 73, f 74, f 75, f 76, f 77, f 78, f 79, f 80, f 81, f 82, f 83, f 84, f 85, f 86, f 87, f 88, f 89, f 90, f 91, f 92, f 93, f 94, f 95] := by kernel_rfl
theorem _root_.Go.Blk.BytesAt.grow {av : Nat} {W W' : World} {a : Option Addr} {l c : Nat} {xs : List UInt8} (h : BytesAt av W a l c xs) (he : W.Extends W') : BytesAt W'.heap.size W' a l c xs := h.at_new (fun b hb => he.blk hb) he.size
theorem cons_eq (x y : UInt8) (xs ys : List UInt8) : decide (x :: xs = y :: ys) = (decide (x = y) && decide (xs = ys)) := by
  by_cases h1 : x = y
  · by_cases h2 : xs = ys <;> simp [h1, h2]
  · simp [h1]
def daI (w : World) (a : Option Addr) (len cap : Nat) (f : Nat → Value) (W : World) : Prop :=
  f 0 = .slice a len cap ∧ f 15 = .slice a len cap ∧ f 16 = .int .i64 (len : Nat) ∧ ∃ i : Nat, i ≤ len ∧ f 17 = .int .i64 (i : Nat) ∧ Hid (w.Extends W)
def daJ (w : World) (a : Option Addr) (len cap i bi : Nat) (op : GOp) (va : Option Addr) (vl vc : Nat) (xs : List UInt8) (f : Nat → Value) (W : World) : Prop :=
  f 0 = .slice a len cap ∧ f 15 = .slice a len cap ∧ f 16 = .int .i64 (len : Nat) ∧ f 17 = .int .i64 (i : Nat) ∧ f 3 = .int .i64 (i : Nat) ∧ f 4 = .pointer (some ⟨bi, 0, none⟩) ∧ f 7 = .slice va vl vc ∧
  ∃ j : Nat, j ≤ i ∧ f 8 = .int .i64 (j : Nat) ∧ blk W bi = some op.enc ∧ Hid (BytesAt W.heap.size W va vl vc xs) ∧ Hid (w.Extends W)
set_option maxRecDepth 20000 in
set_option maxHeartbeats 4000000 in
theorem apart_walk (w : World) (a : Option Addr) (len cap : Nat) (g : Nat → GOp) (dt : Nat → List UInt8) (hS : ScriptAt w a len cap g dt) :
    Calls Try.prog 6 #[.slice a len cap] w fun e w' => e = .returned (.bool true) ∧ w.Extends w' := by
  have HS : Hid (ScriptAt w a len cap g dt) := hS
  clear hS
  go_enter Try.func6, Try.ntmps6
  go_wp2_with fail
  refine (small_any w a len cap g dt HS.out).mono ?_
  rintro e w1 ⟨⟨r, rfl, hr⟩, rfl⟩
  cases r with
  | false =>
    go_wp2_with fail
    go_ret
    exact ⟨rfl, ext_Ext (Ext.refl _)⟩
  | true =>
    obtain ⟨hl, hsm⟩ := hr rfl
    have HSM : Hid (∀ i, i < len → (g i).data.len ≤ 65536) := hsm
    clear hr hsm
    go_wp2_with fail
    refine wp_loop_f 96 (daI w1 a len cap) (fun f _ => len - (intOf (f 17)).toNat) rfl ?_ ?_
    · exact ⟨rfl, rfl, rfl, 0, by omega, rfl, ext_Ext (Ext.refl _)⟩
    intro F W hrel
    obtain ⟨h0, h15, h16, i, hi, h17, HE⟩ := hrel
    have H17 : Hid (F 17 = .int .i64 (i : Nat)) := h17
    rw [frame96, h0, h15, h16, h17]
    clear h0 h15 h16 h17
    by_cases hil : i < len
    · have hSW := HS.out.mono HE.out
      obtain ⟨b, o, C, rfl, hC, hlen, hseg⟩ := hSW.2.2.2 (by omega)
      obtain ⟨b', o', C', hab', hC0, hrest⟩ := HS.out.2.2.2 (by omega)
      clear hrest
      obtain ⟨rfl, rfl⟩ : b = b' ∧ o = o' := by simpa using hab'
      obtain rfl : C = C' := by
        have h1 := (HE.out.blk (blk_lt hC0)).trans hC0
        rw [hC] at h1
        exact Option.some.inj h1
      have HC0 : Hid (blk w1 b = some C) := hC0
      clear hC0 hab'
      have HX := hSW.bytes hil (HSM.out i hil)
      have HSEG : Hid (∀ i, i < len → seg C (o + i * 39) 39 = (g i).enc) := hseg
      have hs := hseg i hil
      obtain ⟨op, hop⟩ : ∃ op, op = g i := ⟨_, rfl⟩
      rw [← hop] at hs HX
      have HX1 : Hid (BytesAt W.heap.size W op.data.a op.data.len op.data.cap (dt i)) := HX
      have HOP : Hid (op = g i) := hop
      have HDL : Hid (op.data.len ≤ 65536) := by show _ ≤ _; rw [hop]; exact HSM.out i hil
      clear hSW HX hseg hop
      have q0 : (0 : Int) ≤ (i : Int) := by omega
      have q1 : (i : Int) < (len : Int) := by omega
      have q2 : ((i : Int)).toNat = i := by omega
      have q3 : o + i * 39 + 39 ≤ C.length := by omega
      have hbl := blk_lt hC
      by_cases hk : op.kind = 9
      · go_upto_region 6 with fail
        refine wp_world (fun W2 => blk W2 W.heap.size = some op.enc ∧ W.heap.size < W2.heap.size ∧ Hid (W.Extends W2)) ⟨?_, ?_, extends_alloc (ext_Ext (Ext.refl _)) _⟩ ?_
        · rw [blk_alloc, if_pos rfl]
        · rw [World.size_alloc]; omega
        rintro W2 ⟨hbi, hbil, HE2⟩
        have hC2 := (HE2.out.blk hbl).trans hC
        clear hC
        obtain ⟨dn, hdn⟩ : ∃ dn : Nat, w8 op.dom = (dn : Int) := ⟨op.dom.toNat, rfl⟩
        have HDN : Hid (op.dom.toNat = dn) := by show _ = _; unfold w8 at hdn; omega
        by_cases hd : okDom op.dom = true
        · have hd1 : 1 ≤ dn ∧ dn ≤ 8 := by
            simp [okDom] at hd
            have := HDN.out
            omega
          have g1 : ¬ (dn : Int) < 1 := by omega
          have g2 : ¬ (8 : Int) < (dn : Int) := by omega
          go_wp2_with fail
          rw [← hdn]
          refine (tagged_ok W2 W2.heap.size op.dom _ _ _ _ (HX1.out.grow HE2.out) hd (by have := HDL.out; omega)).mono ?_
          rintro e W3 ⟨rfl, he3⟩
          have hbi3 := (he3.blk hbil).trans hbi
          have HE3 : Hid (W.Extends W3) := HE2.out.trans (ext_Ext he3)
          have hW3 : W.heap.size < W3.heap.size := Nat.lt_of_lt_of_le hbil he3.size
          have n3 : ¬ W.heap.size = W3.heap.size := by omega
          obtain ⟨sm, hsm⟩ : ∃ sm, sm = sha (op.dom :: dt i) := ⟨_, rfl⟩
          rw [← hsm, hdn]
          have HSUM : Hid (sm = sha (op.dom :: dt i)) := hsm
          clear he3 hbi HE2 hC2 hsm
          go_upto_region 8 with fail
          refine wp_world (fun W4 => blk W4 W.heap.size = some op.enc ∧ blk W4 W3.heap.size = some (arr u8v sm) ∧ W3.heap.size < W4.heap.size ∧ Hid (W.Extends W4)) ⟨?_, ?_, ?_, extends_alloc HE3.out _⟩ ?_
          · rw [blk_alloc, if_neg n3]; exact hbi3
          · rw [blk_alloc, if_pos rfl]
          · rw [World.size_alloc]; omega
          rintro W4 ⟨hbi4, hbs4, hsz4, HE4⟩
          clear hbi3 HE3 n3
          go_wp2_with fail
          rw [← hdn]
          refine (taggedInput_any W4 W4.heap.size op.dom _ _ _ _ (HX1.out.grow HE4.out) (by have := HDL.out; omega)).mono ?_
          rintro e W5 ⟨v, rfl, hv, he5⟩
          obtain ⟨va, vc, rfl, hvx⟩ := own_bytes hv (by rw [List.length_cons, HX1.out.1]; have := HDL.out; omega)
          obtain ⟨vl, hvl⟩ : ∃ vl, vl = (op.dom :: dt i).length := ⟨_, rfl⟩
          have HVL : Hid (vl = op.data.len + 1) := by show _ = _; rw [hvl, List.length_cons, HX1.out.1]
          rw [← hvl] at hvx ⊢
          rw [hdn]
          have HV5 : Hid (BytesAt W5.heap.size W5 va vl vc (op.dom :: dt i)) := hvx
          have hbi5 := (he5.blk (Nat.lt_trans hW3 hsz4)).trans hbi4
          have hbs5 := (he5.blk hsz4).trans hbs4
          have hsz5 : W3.heap.size < W5.heap.size := Nat.lt_of_lt_of_le hsz4 he5.size
          have HE5 : Hid (w1.Extends W5) := (HE.out.trans HE4.out).trans he5
          clear hv hvx hvl he5 hbi4 hbs4 hsz4 HE4
          go_wp2_with fail
          refine wp_region_held_drew (S := fun W' => blk W' W3.heap.size = some (arr u8v sm) ∧ blk W' W.heap.size = some op.enc ∧ W3.heap.size < W'.heap.size ∧ Hid (BytesAt W'.heap.size W' va vl vc (op.dom :: dt i)) ∧ Hid (w1.Extends W')) (by kernel_rfl) ⟨hbs5, hbi5, hsz5, HV5, extends_drew HE5.out⟩ (fun hHeld => ?_)
          refine wpAnyH_take (i := 0) (oi := ⟨_, _, _, _, _, _⟩) (v := ?_) rfl (by kernel_rfl) (by kernel_rfl) (by kernel_rfl) (fun _ _ _ h => h) (Or.inl ⟨by rfl, ?_⟩) (by assumption) ?_
          rotate_left 1
          · intro W' hSw
            obtain ⟨hS1, hS2, hS3⟩ := hSw
            go_simp
            try with_reducible rfl
          try simp only [Act.put, List.setIfInBounds_toArray, List.set_cons_zero, List.set_cons_succ]
          refine wpAnyH_take (i := 1) (oi := ⟨_, _, _, _, _, _⟩) (v := ?_) rfl (by kernel_rfl) (by kernel_rfl) (by kernel_rfl) (fun _ _ _ h => h) (Or.inl ⟨by rfl, ?_⟩) (by assumption) ?_
          rotate_left 1
          · intro W' hSw
            obtain ⟨hS1, hS2, hS3⟩ := hSw
            go_simp
            try with_reducible rfl
          try simp only [Act.put, List.setIfInBounds_toArray, List.set_cons_zero, List.set_cons_succ]
          refine wpAnyH_take (i := 2) (oi := ⟨_, _, _, _, _, _⟩) (v := ?_) rfl (by kernel_rfl) (by kernel_rfl) (by kernel_rfl) (fun _ _ _ h => h) (Or.inl ⟨by rfl, ?_⟩) (by assumption) ?_
          rotate_left 1
          · intro W' hSw
            obtain ⟨hS1, hS2, hS3⟩ := hSw
            go_simp
            try with_reducible rfl
          try simp only [Act.put, List.setIfInBounds_toArray, List.set_cons_zero, List.set_cons_succ]
          refine wpAnyH_take (i := 3) (oi := ⟨_, _, _, _, _, _⟩) (v := ?_) rfl (by kernel_rfl) (by kernel_rfl) (by kernel_rfl) (fun _ _ _ h => h) (Or.inl ⟨by rfl, ?_⟩) (by assumption) ?_
          rotate_left 1
          · intro W' hSw
            obtain ⟨hS1, hS2, hS3⟩ := hSw
            go_simp
            try with_reducible rfl
          try simp only [Act.put, List.setIfInBounds_toArray, List.set_cons_zero, List.set_cons_succ]
          refine wpAnyH_take (i := 4) (oi := ⟨_, _, _, _, _, _⟩) (v := ?_) rfl (by kernel_rfl) (by kernel_rfl) (by kernel_rfl) (fun _ _ _ h => h) (Or.inl ⟨by rfl, ?_⟩) (by assumption) ?_
          rotate_left 1
          · intro W' hSw
            obtain ⟨hS1, hS2, hS3⟩ := hSw
            go_simp
            try with_reducible rfl
          try simp only [Act.put, List.setIfInBounds_toArray, List.set_cons_zero, List.set_cons_succ]
          refine wpAnyH_ready (rs := [5]) (by kernel_rfl) (by simp) ?_
          refine AllReadyH.cons (o := ⟨_, _, _, _, _, _⟩) rfl (fun K hK => ?_) AllReadyH.nil
          go_simp
          refine (msum_any _ _ va vl vc _ hHeld.2.2.2.1.out (by have := HVL.out; have := HDL.out; omega)).mono ?_
          rintro e W6 ⟨rfl, hy⟩
          dsimp only
          refine hK.out _ _ ?_ (fun hHeld => ?_)
          · exact ⟨(hy.blk hHeld.2.2.1).trans hHeld.1, (hy.blk (Nat.lt_trans hW3 hHeld.2.2.1)).trans hHeld.2.1, Nat.lt_of_lt_of_le hHeld.2.2.1 hy.size, hHeld.2.2.2.1.out.grow hy, hHeld.2.2.2.2.out.trans hy⟩
          clear hK K
          clear hy
          try simp only [Act.put, List.setIfInBounds_toArray, List.set_cons_zero, List.set_cons_succ]
          refine wpAnyH_take (i := 6) (oi := ⟨_, _, _, _, _, _⟩) (v := ?_) rfl (by kernel_rfl) (by kernel_rfl) (by kernel_rfl) (fun _ _ _ h => h) (Or.inl ⟨by rfl, ?_⟩) (by assumption) ?_
          rotate_left 1
          · intro W' hSw
            obtain ⟨hS1, hS2, hS3⟩ := hSw
            go_simp
            try with_reducible rfl
          try simp only [Act.put, List.setIfInBounds_toArray, List.set_cons_zero, List.set_cons_succ]
          refine wpAnyH_take (i := 7) (oi := ⟨_, _, _, _, _, _⟩) (v := ?_) rfl (by kernel_rfl) (by kernel_rfl) (by kernel_rfl) (fun _ _ _ h => h) (Or.inl ⟨by rfl, ?_⟩) (by assumption) ?_
          rotate_left 1
          · intro W' hSw
            obtain ⟨hS1, hS2, hS3⟩ := hSw
            go_simp
            try with_reducible rfl
          try simp only [Act.put, List.setIfInBounds_toArray, List.set_cons_zero, List.set_cons_succ]
          refine wpAnyH_done (by kernel_rfl) ?_ _
          rw [← HSUM.out]
          obtain ⟨hbs6, hbi6, hsz6, HV6, HE6⟩ := hHeld
          clear hbs5 hbi5 hsz5 HV5 HE5 hbs6
          go_wp2_with fail
          refine wp_loop_f 96 (daJ w1 (some ⟨b, o, none⟩) len cap i W.heap.size op va vl vc (op.dom :: dt i)) (fun f _ => i - (intOf (f 8)).toNat) rfl ?_ ?_
          · exact ⟨rfl, rfl, rfl, rfl, rfl, rfl, rfl, 0, by omega, rfl, hbi6, HV6, HE6⟩
          obtain ⟨bi, hbi⟩ : ∃ bi, bi = W.heap.size := ⟨_, rfl⟩
          rw [← hbi]
          clear hbi6 HV6 HE6 hsz6 HSUM hbi
          intro F7 W7 hrel
          obtain ⟨h0, h15, h16, h17, h3, h4, h7, j, hj, h8, hbi7, HV7, HE7⟩ := hrel
          have H8 : Hid (F7 8 = .int .i64 (j : Nat)) := h8
          rw [frame96, h0, h15, h16, h17, h3, h4, h7, h8]
          clear h0 h15 h16 h17 h3 h4 h7 h8
          by_cases hji : j < i
          · have hSW := HS.out.mono HE7.out
            have hC7 : blk W7 b = some C := (HE7.out.blk (blk_lt HC0.out)).trans HC0.out
            have hs7 := HSEG.out j (by omega)
            have HXJ0 := hSW.bytes (show j < len by omega) (HSM.out j (by omega))
            have HXI0 := hSW.bytes hil (HSM.out i hil)
            rw [← HOP.out] at HXI0
            obtain ⟨oj, hoj⟩ : ∃ oj, oj = g j := ⟨_, rfl⟩
            rw [← hoj] at hs7 HXJ0
            have HXJ : Hid (BytesAt W7.heap.size W7 oj.data.a oj.data.len oj.data.cap (dt j)) := HXJ0
            have HXI : Hid (BytesAt W7.heap.size W7 op.data.a op.data.len op.data.cap (dt i)) := HXI0
            have HJL : Hid (oj.data.len ≤ 65536) := by show _ ≤ _; rw [hoj]; exact HSM.out j (by omega)
            clear hSW HXJ0 HXI0 hoj
            have r0 : (0 : Int) ≤ (j : Int) := by omega
            have r1 : (j : Int) < (len : Int) := by omega
            have r2 : ((j : Int)).toNat = j := by omega
            have r3 : o + j * 39 + 39 ≤ C.length := by omega
            have r4 : (j : Int) < (i : Int) := by omega
            have hbil7 := blk_lt hbi7
            by_cases hkj : oj.kind = 9
            · go_upto_region 18 with fail
              refine wp_world (fun W8 => blk W8 W7.heap.size = some oj.enc ∧ blk W8 bi = some op.enc ∧ W7.heap.size < W8.heap.size ∧ Hid (W7.Extends W8)) ⟨?_, ?_, ?_, extends_alloc (ext_Ext (Ext.refl _)) _⟩ ?_
              · rw [blk_alloc, if_pos rfl]
              · rw [blk_alloc, if_neg (by omega)]; exact hbi7
              · rw [World.size_alloc]; omega
              rintro W8 ⟨hbj8, hbi8, hsz8, HE8⟩
              go_wp2_with fail
              refine (taggedInput_any W8 W8.heap.size oj.dom _ _ _ _ (HXJ.out.grow HE8.out) (by have := HJL.out; omega)).mono ?_
              rintro e W9 ⟨v9, rfl, hv9, he9⟩
              obtain ⟨ua, uc, rfl, hux⟩ := own_bytes hv9 (by rw [List.length_cons, HXJ.out.1]; have := HJL.out; omega)
              have hbj9 := (he9.blk hsz8).trans hbj8
              have hbi9 := (he9.blk (Nat.lt_trans hbil7 hsz8)).trans hbi8
              have HE9 : Hid (W7.Extends W9) := HE8.out.trans he9
              have HUX : Hid (BytesAt W9.heap.size W9 ua (oj.dom :: dt j).length uc (oj.dom :: dt j)) := hux
              have hsz9 : W7.heap.size < W9.heap.size := Nat.lt_of_lt_of_le hsz8 he9.size
              clear hv9 hux he9 hbj8 hbi8 HE8 hsz8
              obtain ⟨ul, hul⟩ : ∃ ul, ul = (oj.dom :: dt j).length := ⟨_, rfl⟩
              rw [← hul] at HUX ⊢
              clear hul
              go_wp2_with fail
              refine (same_any W9 _ _ va ua vl ul vc uc _ _ (HV7.out.grow HE9.out) HUX.out).mono ?_
              rintro e W10 ⟨rfl, n10, rfl⟩
              rw [cons_eq]
              have HEA : Hid (w1.Extends (W9.drewN n10)) := extends_drewN (HE7.out.trans HE9.out) _
              have HVA : Hid (BytesAt W9.heap.size W9 va vl vc (op.dom :: dt i)) := HV7.out.grow HE9.out
              by_cases hdd : op.dom = oj.dom
              · have hdd' : w8 op.dom = w8 oj.dom := by rw [hdd]
                rw [decide_eq_true hdd, Bool.true_and]
                go_wp2_with fail
                refine (same_any (W9.drewN n10) _ _ _ _ _ _ _ _ (dt i) (dt j) (HXI.out.grow (extends_drewN HE9.out n10)) (HXJ.out.grow (extends_drewN HE9.out n10))).mono ?_
                rintro e W11 ⟨rfl, n11, rfl⟩
                obtain ⟨bb, hbb⟩ : ∃ bb, bb = decide (dt i = dt j) := ⟨_, rfl⟩
                rw [← hbb]
                clear hbb
                cases bb with
                | true =>
                  go_wp2_with fail
                  refine ⟨rfl, rfl, ?_, ?_⟩
                  · refine ⟨rfl, rfl, rfl, rfl, rfl, rfl, rfl, j + 1, by omega, ?_, hbi9, HVA.out, extends_drewN (HE7.out.trans HE9.out) _⟩
                    show Value.int .i64 _ = _
                    go_num
                  · show i - (intOf (Value.int .i64 _)).toNat < i - (intOf (F7 8)).toNat
                    rw [H8.out]
                    simp [intOf]; omega
                | false =>
                  go_wp2_with fail
                  refine ⟨rfl, rfl, ?_, ?_⟩
                  · refine ⟨rfl, rfl, rfl, rfl, rfl, rfl, rfl, j + 1, by omega, ?_, hbi9, HVA.out, extends_drewN (HE7.out.trans HE9.out) _⟩
                    show Value.int .i64 _ = _
                    go_num
                  · show i - (intOf (Value.int .i64 _)).toNat < i - (intOf (F7 8)).toNat
                    rw [H8.out]
                    simp [intOf]; omega
              · have hdd' : ¬ w8 op.dom = w8 oj.dom := fun h => hdd (by unfold w8 at h; exact UInt8.toNat_inj.1 (by omega))
                rw [decide_eq_false hdd, Bool.false_and]
                go_wp2_with fail
                refine ⟨rfl, rfl, ?_, ?_⟩
                · refine ⟨rfl, rfl, rfl, rfl, rfl, rfl, rfl, j + 1, by omega, ?_, hbi9, HVA.out, HEA⟩
                  show Value.int .i64 _ = _
                  go_num
                · show i - (intOf (Value.int .i64 _)).toNat < i - (intOf (F7 8)).toNat
                  rw [H8.out]
                  simp [intOf]; omega
            · go_wp2_with fail
              refine ⟨rfl, rfl, ?_, ?_⟩
              · refine ⟨rfl, rfl, rfl, rfl, rfl, rfl, rfl, j + 1, by omega, ?_, (by rw [blk_alloc, if_neg (by omega)]; exact hbi7), HV7.out.grow (extends_alloc (ext_Ext (Ext.refl _)) _), extends_alloc HE7.out _⟩
                show Value.int .i64 _ = _
                go_num
              · show i - (intOf (Value.int .i64 _)).toNat < i - (intOf (F7 8)).toNat
                rw [H8.out]
                simp [intOf]; omega
          · obtain rfl : j = i := by omega
            go_wp2_with fail
            refine ⟨rfl, rfl, ?_, ?_⟩
            · refine ⟨rfl, rfl, rfl, j + 1, by omega, ?_, HE7⟩
              show Value.int .i64 _ = _
              go_num
            · show len - (intOf (Value.int .i64 _)).toNat < len - (intOf (F 17)).toNat
              rw [H17.out]
              simp [intOf]; omega
        · have hd1 : dn < 1 ∨ 8 < dn := by
            simp [okDom] at hd
            have := HDN.out
            omega
          have hdf : okDom op.dom = false := by simpa using hd
          go_wp2_with fail
          rw [← hdn]
          refine (tagged_bad W2 op.dom _ hdf).mono ?_
          rintro e W3 ⟨rfl, he3⟩
          rw [hdn]
          have hbi3 := (he3.blk hbil).trans hbi
          have HE3 : Hid (w1.Extends W3) := (HE.out.trans HE2.out).trans (ext_Ext he3)
          have hW3 : W.heap.size < W3.heap.size := Nat.lt_of_lt_of_le hbil he3.size
          have n3 : ¬ W.heap.size = W3.heap.size := by omega
          clear he3 hbi HE2 hC2 HE
          by_cases g1 : dn < 1
          · obtain rfl : dn = 0 := by omega
            go_wp2_with fail
            refine ⟨rfl, rfl, ?_, ?_⟩
            · refine ⟨rfl, rfl, rfl, i + 1, by omega, ?_, extends_alloc HE3.out _⟩
              show Value.int .i64 _ = _
              go_num
            · show len - (intOf (Value.int .i64 _)).toNat < len - (intOf (F 17)).toNat
              rw [H17.out]
              simp [intOf]; omega
          · have g2 : (8 : Int) < (dn : Int) := by omega
            have g1' : ¬ (dn : Int) < 1 := by omega
            go_wp2_with fail
            refine ⟨rfl, rfl, ?_, ?_⟩
            · refine ⟨rfl, rfl, rfl, i + 1, by omega, ?_, extends_alloc HE3.out _⟩
              show Value.int .i64 _ = _
              go_num
            · show len - (intOf (Value.int .i64 _)).toNat < len - (intOf (F 17)).toNat
              rw [H17.out]
              simp [intOf]; omega
      · go_wp2_with fail
        refine ⟨rfl, rfl, ?_, ?_⟩
        · refine ⟨rfl, rfl, rfl, i + 1, by omega, ?_, extends_alloc HE.out _⟩
          show Value.int .i64 _ = _
          go_num
        · show len - (intOf (Value.int .i64 _)).toNat < len - (intOf (F 17)).toNat
          rw [H17.out]
          simp [intOf]; omega
    · obtain rfl : i = len := by omega
      go_wp2_with fail
      go_ret
      exact ⟨rfl, HE.out⟩
end Go.Proofs.Qxb6500785a
