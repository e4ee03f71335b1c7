import Derived.Test.Qxb6500785aTag
import Derived.Test.Qxb6500785aKnown
import Derived.Deep.RegionHeld
import Derived.Deep.CutRange
import Derived.Laws.ResultCell
import Derived.Laws.Rows
set_option linter.unusedSimpArgs false
set_option linter.unusedVariables false
namespace Go.Proofs.Qxb6500785a
open Go.RowKit Go.Blk
attribute [local go_sem ↓] execOp_load execOp_store execOp_alloc
attribute [local go_sem] Try.ld24 Try.st24 Try.ld5 Try.st5 Try.ld3 Try.st3 Try.ld27 Try.st27 Try.ld32 Try.st32 Try.ld33 Try.st33 Try.ld4 Try.st4 Try.ld41 Try.st41 Try.ld40 Try.st40 Try.ld42 Try.st42 Try.ld47 Try.st47 Try.ld48 Try.st48 Try.ld57 Try.st57 Try.ld58 Try.st58 Try.ld2 Try.st2 Try.ld9 Try.st9 Try.ld12 Try.st12 Try.ld21 Try.st21 Try.ld22 Try.st22 Try.ld46 Try.st46 Try.ld83 Try.st83 Try.ld95 Try.st95 Try.ld99 Try.st99 Try.ld106 Try.st106 Try.ld108 Try.st108 Try.ld134 Try.st134 Try.ld25 Try.st25 Try.ld26 Try.st26 Try.ld34 Try.st34 Try.ld31 Try.st31 Try.ld30 Try.st30 Try.ld74 Try.st74 Try.ld96 Try.st96 Try.ld101 Try.st101 Try.ld115 Try.st115 Try.ld116 Try.st116 Try.ld120 Try.st120 Try.ld121 Try.st121 Try.ld122 Try.st122 Try.ld29 Try.st29 Try.ld36 Try.st36 Try.ld38 Try.st38 Try.ld44 Try.st44 Try.ld50 Try.st50 Try.ld60 Try.st60 Try.ld110 Try.st110 Try.al25 Try.al26 Try.al34 Try.al31 Try.al30 Try.al74 Try.al96 Try.al101 Try.al115 Try.al116 Try.al120 Try.al121 Try.al122 Try.al29 Try.al36 Try.al38 Try.al44 Try.al50 Try.al60 Try.al110
attribute [local go_sem] Hasher.length_enc Hasher.ok_enc Hasher.all_get Hasher.all_set Hasher.state_get Hasher.state_set Hasher.block_get Hasher.block_set Hasher.fill_get Hasher.fill_set Hasher.length_get Hasher.length_set GLog.length_enc GLog.ok_enc GLog.all_get GLog.all_set GLog.entries_get GLog.entries_set GLog.shelves_get GLog.shelves_set GLog.first_get GLog.first_set GLog.second_get GLog.second_set GLog.found_get GLog.found_set Player.length_enc Player.ok_enc Player.all_get Player.all_set Player.hand_get Player.hand_set Player.aside_get Player.aside_set Player.prev_get Player.prev_set Player.last_get Player.last_set Player.log_get Player.log_set Player.hand_state_get Player.hand_state_set Player.hand_block_get Player.hand_block_set Player.hand_fill_get Player.hand_fill_set Player.hand_length_get Player.hand_length_set Player.aside_state_get Player.aside_state_set Player.aside_block_get Player.aside_block_set Player.aside_fill_get Player.aside_fill_set Player.aside_length_get Player.aside_length_set Player.log_entries_get Player.log_entries_set Player.log_shelves_get Player.log_shelves_set Player.log_first_get Player.log_first_set Player.log_second_get Player.log_second_set Player.log_found_get Player.log_found_set GOp.length_enc GOp.ok_enc GOp.all_get GOp.all_set GOp.kind_get GOp.kind_set GOp.data_get GOp.data_set GOp.cut_get GOp.cut_set GOp.n_get GOp.n_set GOp.b_get GOp.b_set GOp.v_get GOp.v_set GOp.dom_get GOp.dom_set GOp.sum_get GOp.sum_set Answer.length_enc Answer.ok_enc Answer.all_get Answer.all_set Answer.code_get Answer.code_set Answer.sum_get Answer.sum_set Answer.len_get Answer.len_set Answer.mark_get Answer.mark_set Answer.noted_get Answer.noted_set Answer.collided_get Answer.collided_set GState.length_enc GState.ok_enc GState.all_get GState.all_set GState.hand_get GState.hand_set GState.aside_get GState.aside_set GState.prev_get GState.prev_set GState.last_get GState.last_set GState.inputs_get GState.inputs_set GState.sums_get GState.sums_set GState.collided_get GState.collided_set GState.older_get GState.older_set GState.younger_get GState.younger_set Noted.length_enc Noted.ok_enc Noted.all_get Noted.all_set Noted.input_get Noted.input_set Noted.sum_get Noted.sum_set
attribute [local go_sem] size_put size_ext blk_put free_put blk_alloc free_alloc blk_drew free_drew blk_ext free_ext lookOr_some putOr_some segAt_some cellAt_some storeIn_some put_put put_alloc_new length_arr ok_arr_u8 ok_arr_u32 ok_arr_u64 ok_arr_i64 ok_arr_sl cellsV_agg cellsV_int cellsV_bool cellsV_string cellsV_pointer cellsV_slice cellsV_sl ok_int ok_bool ok_string ok_pointer ok_slice ok_sl toList_arr seg_arr set_arr nth_splice nth_splice0 seg_splice seg_splice0 splice_splice splice_splice0 length_splice_if
attribute [local go_sem] w32_and w32_or w32_xor w32_add w32_or8 w32_not w8_and w8_or w8_xor w32_shr2 w32_shl2 w32_shr3 w32_shl3 w32_shr6 w32_shl6 w32_shr7 w32_shl7 w32_shr8 w32_shl8 w32_shr10 w32_shl10 w32_shr11 w32_shl11 w32_shr13 w32_shl13 w32_shr14 w32_shl14 w32_shr15 w32_shl15 w32_shr16 w32_shl16 w32_shr17 w32_shl17 w32_shr18 w32_shl18 w32_shr19 w32_shl19 w32_shr21 w32_shl21 w32_shr22 w32_shl22 w32_shr24 w32_shl24 w32_shr25 w32_shl25 w32_shr26 w32_shl26 w32_shr30 w32_shl30 w8_shl24 w8_shl16 w8_shl8 v32_add v32_byte w32_byte0 v8_shl24 v8_shl16 v8_shl8 v32_shr2 v32_shl2 v32_shr3 v32_shl3 v32_shr6 v32_shl6 v32_shr7 v32_shl7 v32_shr8 v32_shl8 v32_shr10 v32_shl10 v32_shr11 v32_shl11 v32_shr13 v32_shl13 v32_shr14 v32_shl14 v32_shr15 v32_shl15 v32_shr16 v32_shl16 v32_shr17 v32_shl17 v32_shr18 v32_shl18 v32_shr19 v32_shl19 v32_shr21 v32_shl21 v32_shr22 v32_shl22 v32_shr24 v32_shl24 v32_shr25 v32_shl25 v32_shr26 v32_shl26 v32_shr30 v32_shl30
attribute [local go_sem ↓] execOp_build
attribute [local go_sem] run_build_kv run_build_iv nth_arr_u32 put_arr_u32 nth_arr_u8 put_arr_u8 v32_of8 blk_drewN free_drewN put_drewN put_drew blk_raw free_raw
attribute [local go_sem ↓] execOp_slice execOp_copy
attribute [local go_sem] Try.sl40lo Try.sl40hi Try.sl26lo Try.sl26hi Try.sl26 Try.sl96lo Try.sl96hi Try.sl96 Try.sl31lo Try.sl31 Try.sl120 Try.sl121 Try.sl121lo Try.sl121hi Try.cp40 copyOr_some copyIn_some srcB_drew srcB_drewN srcB_raw length_bv one_bv
attribute [local go_sem] Hasher.length_zero
attribute [local go_sem] Try.cpv copyOrV_some
attribute [local go_sem ↓] execOp_index execOp_convert execOp_box execOp_convert9
attribute [local go_sem] index_hex box_run conv_bytes eq31
theorem ScriptAt.mono {W W' : World} {a : Option Addr} {len cap : Nat} {g : Nat → GOp} {dt : Nat → List UInt8} (h : ScriptAt W a len cap g dt) (he : W.Extends W') : ScriptAt W' a len cap g dt := by
  obtain ⟨h1, h2, h3, h4⟩ := h
  refine ⟨h1, h2, fun i hi => ⟨(h3 i hi).1, ?_⟩, fun h0 => ?_⟩
  · obtain ⟨_, ⟨e1, e2, e3, e4⟩, e5⟩ := h3 i hi
    refine ⟨⟨e1, e2, e3, fun h0 => ?_⟩, e5⟩
    obtain ⟨bp, op, C, ha, hC, hl⟩ := e4 h0
    exact ⟨bp, op, C, ha, (he.blk (blk_lt hC)).trans hC, hl⟩
  · obtain ⟨b, o, C, ha, hC, hl⟩ := h4 h0
    exact ⟨b, o, C, ha, (he.blk (blk_lt hC)).trans hC, hl⟩
theorem ScriptAt.bytes {W : World} {a : Option Addr} {len cap : Nat} {g : Nat → GOp} {dt : Nat → List UInt8} (h : ScriptAt W a len cap g dt) {i : Nat} (hi : i < len) (hs : (g i).data.len ≤ 65536) : BytesAt W.heap.size W (g i).data.a (g i).data.len (g i).data.cap (dt i) := by
  obtain ⟨_, ⟨e1, e2, e3, e4⟩, _⟩ := h.2.2.1 i hi
  simp only [maxLen] at e3
  refine ⟨e1, e2, ⟨by omega, by omega⟩, fun h0 => ?_⟩
  obtain ⟨bp, op, C, ha, hC, hl⟩ := e4 h0
  exact ⟨bp, op, C, ha, Nat.ne_of_lt (blk_lt hC), hC, hl⟩
set_option maxRecDepth 100000 in
theorem frame25 (f : Nat → Value) : frameN 25 f = #[f 0, f 1, f 2, f 3, f 4, f 5, f 6, f 7, f 8, f 9, f 10, f 11, f 12, f 13, f 14, f 15, f 16, f 17, f 18, f 19, f 20, f 21, f 22, f 23, f 24] := by kernel_rfl
def zsI (w : World) (a : Option Addr) (len cap : Nat) (g : Nat → GOp) (f : Nat → Value) (W : World) : Prop :=
  f 0 = .slice a len cap ∧ W = w ∧ ∃ (i n : Nat), i ≤ len ∧ f 4 = .int .i64 (i : Nat) ∧ f 3 = .int .i64 (n : Nat) ∧ n ≤ 65536 ∧ ∀ j, j < i → (g j).data.len ≤ 65536
set_option maxRecDepth 20000 in
set_option maxHeartbeats 2000000 in
theorem small_any (w : World) (a : Option Addr) (len cap : Nat) (g : Nat → GOp) (dt : Nat → List UInt8) (hS : ScriptAt w a len cap g dt) :
    Calls Try.prog 12 #[.slice a len cap] w fun e w' => (∃ r : Bool, e = .returned (.bool r) ∧ (r = true → len ≤ 65536 ∧ ∀ i, i < len → (g i).data.len ≤ 65536)) ∧ w' = w := by
  have HS : Hid (ScriptAt w a len cap g dt) := hS
  have hm : len ≤ 9223372036854775807 := by have := hS.1; have := hS.2.1; simp only [maxLen] at this; omega
  clear hS
  by_cases hl : len ≤ 65536
  · have hl' : ¬ (65536 : Int) < (len : Int) := by omega
    go_enter Try.func12, Try.ntmps12
    go_wp2_with fail
    refine wp_loop_f 25 (zsI w a len cap g) (fun f _ => len - (intOf (f 4)).toNat) rfl ?_ ?_
    · exact ⟨rfl, rfl, 0, len, by omega, rfl, rfl, hl, fun j h => by omega⟩
    intro F W hrel
    obtain ⟨h0, rfl, i, n, hi, h4, h3, hn, hall⟩ := hrel
    have H4 : Hid (F 4 = .int .i64 (i : Nat)) := h4
    have HA : Hid (∀ j, j < i → (g j).data.len ≤ 65536) := hall
    rw [frame25, h0, h3, h4]
    clear h0 h3 h4 hall
    by_cases hil : i < len
    · obtain ⟨b, o, C, rfl, hC, hlen, hseg⟩ := HS.out.2.2.2 (by omega)
      have hs := hseg i hil
      have hdl := (HS.out.2.2.1 i hil).2
      obtain ⟨s, hsd⟩ : ∃ s, s = (g i).data := ⟨_, rfl⟩
      have hnth : nth C (o + i * 39 + 1) = some (Sl.val s) := by
        have h1 := GOp.data_get (g i)
        rw [← hs, ← hsd] at h1
        unfold nth at h1 ⊢
        unfold seg at h1
        rw [List.getElem?_take, if_pos (by omega), List.getElem?_drop] at h1
        exact h1
      have hsm : s.len ≤ 140737488351232 := by rw [hsd]; exact hdl.2
      obtain ⟨sa, sl, sc⟩ := s
      have HSD : Hid ((⟨sa, sl, sc⟩ : Sl) = (g i).data) := hsd
      simp only [Sl.val] at hnth hsm
      clear hseg hs hdl hsd
      have q0 : (0 : Int) ≤ (i : Int) := by omega
      have q1 : (i : Int) < (len : Int) := by omega
      have q2 : ((i : Int)).toNat = i := by omega
      by_cases hbig : n + sl ≤ 65536
      · go_wp2_with fail
        refine ⟨rfl, rfl, ?_, ?_⟩
        · refine ⟨rfl, rfl, i + 1, n + sl, by omega, ?_, ?_, hbig, fun j hj => ?_⟩
          · show Value.int .i64 _ = _
            go_num
          · show Value.int .i64 _ = _
            go_num
          · by_cases hji : j = i
            · subst hji; rw [← HSD.out]; show sl ≤ 65536; omega
            · exact HA.out j (by omega)
        · show len - (intOf (Value.int .i64 _)).toNat < len - (intOf (F 4)).toNat
          rw [H4.out]
          simp [intOf]; omega
      · go_wp2_with fail
        go_ret
        exact ⟨⟨false, rfl, fun h => by simp at h⟩, rfl⟩
    · obtain rfl : i = len := by omega
      go_wp2_with fail
      go_ret
      exact ⟨⟨true, rfl, fun _ => ⟨hl, HA.out⟩⟩, rfl⟩
  · have hl' : (65536 : Int) < (len : Int) := by omega
    go_enter Try.func12, Try.ntmps12
    go_wp2_with fail
    go_ret
    exact ⟨⟨false, rfl, fun h => by simp at h⟩, rfl⟩
end Go.Proofs.Qxb6500785a
