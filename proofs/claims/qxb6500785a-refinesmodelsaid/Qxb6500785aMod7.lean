import Derived.Test.Qxb6500785aMod6
import Derived.Test.Qxb6500785aStepB3

import Derived.Test.Qxb6500785aStream
import Derived.Test.Qxb6500785aApart
import Derived.Test.Qxb6500785aKnown
import Derived.Deep.RegionHeld
import Derived.Deep.CutRange
import Derived.Laws.ResultCell
import Derived.Laws.Rows
set_option linter.unusedSimpArgs false
set_option linter.unusedVariables false
namespace Go.Proofs.Qxb6500785a
open Go.RowKit Go.Blk
attribute [local go_sem ↓] execOp_load execOp_store execOp_alloc
attribute [local go_sem] Try.ld24 Try.st24 Try.ld5 Try.st5 Try.ld3 Try.st3 Try.ld27 Try.st27 Try.ld32 Try.st32 Try.ld33 Try.st33 Try.ld4 Try.st4 Try.ld41 Try.st41 Try.ld40 Try.st40 Try.ld42 Try.st42 Try.ld47 Try.st47 Try.ld48 Try.st48 Try.ld57 Try.st57 Try.ld58 Try.st58 Try.ld2 Try.st2 Try.ld9 Try.st9 Try.ld12 Try.st12 Try.ld21 Try.st21 Try.ld22 Try.st22 Try.ld46 Try.st46 Try.ld83 Try.st83 Try.ld95 Try.st95 Try.ld99 Try.st99 Try.ld106 Try.st106 Try.ld108 Try.st108 Try.ld134 Try.st134 Try.ld25 Try.st25 Try.ld26 Try.st26 Try.ld34 Try.st34 Try.ld31 Try.st31 Try.ld30 Try.st30 Try.ld74 Try.st74 Try.ld96 Try.st96 Try.ld101 Try.st101 Try.ld115 Try.st115 Try.ld116 Try.st116 Try.ld120 Try.st120 Try.ld121 Try.st121 Try.ld122 Try.st122 Try.ld29 Try.st29 Try.ld36 Try.st36 Try.ld38 Try.st38 Try.ld44 Try.st44 Try.ld50 Try.st50 Try.ld60 Try.st60 Try.ld110 Try.st110 Try.al25 Try.al26 Try.al34 Try.al31 Try.al30 Try.al74 Try.al96 Try.al101 Try.al115 Try.al116 Try.al120 Try.al121 Try.al122 Try.al29 Try.al36 Try.al38 Try.al44 Try.al50 Try.al60 Try.al110
attribute [local go_sem] Hasher.length_enc Hasher.ok_enc Hasher.all_get Hasher.all_set Hasher.state_get Hasher.state_set Hasher.block_get Hasher.block_set Hasher.fill_get Hasher.fill_set Hasher.length_get Hasher.length_set GLog.length_enc GLog.ok_enc GLog.all_get GLog.all_set GLog.entries_get GLog.entries_set GLog.shelves_get GLog.shelves_set GLog.first_get GLog.first_set GLog.second_get GLog.second_set GLog.found_get GLog.found_set Player.length_enc Player.ok_enc Player.all_get Player.all_set Player.hand_get Player.hand_set Player.aside_get Player.aside_set Player.prev_get Player.prev_set Player.last_get Player.last_set Player.log_get Player.log_set Player.hand_state_get Player.hand_state_set Player.hand_block_get Player.hand_block_set Player.hand_fill_get Player.hand_fill_set Player.hand_length_get Player.hand_length_set Player.aside_state_get Player.aside_state_set Player.aside_block_get Player.aside_block_set Player.aside_fill_get Player.aside_fill_set Player.aside_length_get Player.aside_length_set Player.log_entries_get Player.log_entries_set Player.log_shelves_get Player.log_shelves_set Player.log_first_get Player.log_first_set Player.log_second_get Player.log_second_set Player.log_found_get Player.log_found_set GOp.length_enc GOp.ok_enc GOp.all_get GOp.all_set GOp.kind_get GOp.kind_set GOp.data_get GOp.data_set GOp.cut_get GOp.cut_set GOp.n_get GOp.n_set GOp.b_get GOp.b_set GOp.v_get GOp.v_set GOp.dom_get GOp.dom_set GOp.sum_get GOp.sum_set Answer.length_enc Answer.ok_enc Answer.all_get Answer.all_set Answer.code_get Answer.code_set Answer.sum_get Answer.sum_set Answer.len_get Answer.len_set Answer.mark_get Answer.mark_set Answer.noted_get Answer.noted_set Answer.collided_get Answer.collided_set GState.length_enc GState.ok_enc GState.all_get GState.all_set GState.hand_get GState.hand_set GState.aside_get GState.aside_set GState.prev_get GState.prev_set GState.last_get GState.last_set GState.inputs_get GState.inputs_set GState.sums_get GState.sums_set GState.collided_get GState.collided_set GState.older_get GState.older_set GState.younger_get GState.younger_set Noted.length_enc Noted.ok_enc Noted.all_get Noted.all_set Noted.input_get Noted.input_set Noted.sum_get Noted.sum_set
attribute [local go_sem] size_put size_ext blk_put free_put blk_alloc free_alloc blk_drew free_drew blk_ext free_ext lookOr_some putOr_some segAt_some cellAt_some storeIn_some put_put put_alloc_new length_arr ok_arr_u8 ok_arr_u32 ok_arr_u64 ok_arr_i64 ok_arr_sl cellsV_agg cellsV_int cellsV_bool cellsV_string cellsV_pointer cellsV_slice cellsV_sl ok_int ok_bool ok_string ok_pointer ok_slice ok_sl toList_arr seg_arr set_arr nth_splice nth_splice0 seg_splice seg_splice0 splice_splice splice_splice0 length_splice_if
attribute [local go_sem] w32_and w32_or w32_xor w32_add w32_or8 w32_not w8_and w8_or w8_xor w32_shr2 w32_shl2 w32_shr3 w32_shl3 w32_shr6 w32_shl6 w32_shr7 w32_shl7 w32_shr8 w32_shl8 w32_shr10 w32_shl10 w32_shr11 w32_shl11 w32_shr13 w32_shl13 w32_shr14 w32_shl14 w32_shr15 w32_shl15 w32_shr16 w32_shl16 w32_shr17 w32_shl17 w32_shr18 w32_shl18 w32_shr19 w32_shl19 w32_shr21 w32_shl21 w32_shr22 w32_shl22 w32_shr24 w32_shl24 w32_shr25 w32_shl25 w32_shr26 w32_shl26 w32_shr30 w32_shl30 w8_shl24 w8_shl16 w8_shl8 v32_add v32_byte w32_byte0 v8_shl24 v8_shl16 v8_shl8 v32_shr2 v32_shl2 v32_shr3 v32_shl3 v32_shr6 v32_shl6 v32_shr7 v32_shl7 v32_shr8 v32_shl8 v32_shr10 v32_shl10 v32_shr11 v32_shl11 v32_shr13 v32_shl13 v32_shr14 v32_shl14 v32_shr15 v32_shl15 v32_shr16 v32_shl16 v32_shr17 v32_shl17 v32_shr18 v32_shl18 v32_shr19 v32_shl19 v32_shr21 v32_shl21 v32_shr22 v32_shl22 v32_shr24 v32_shl24 v32_shr25 v32_shl25 v32_shr26 v32_shl26 v32_shr30 v32_shl30
attribute [local go_sem ↓] execOp_build
attribute [local go_sem] run_build_kv run_build_iv nth_arr_u32 put_arr_u32 nth_arr_u8 put_arr_u8 v32_of8 blk_drewN free_drewN put_drewN put_drew blk_raw free_raw
attribute [local go_sem ↓] execOp_slice execOp_copy
attribute [local go_sem] Try.sl40lo Try.sl40hi Try.sl26lo Try.sl26hi Try.sl26 Try.sl96lo Try.sl96hi Try.sl96 Try.sl31lo Try.sl31 Try.sl120 Try.sl121 Try.sl121lo Try.sl121hi Try.cp40 copyOr_some copyIn_some srcB_drew srcB_drewN srcB_raw length_bv one_bv
attribute [local go_sem] Hasher.length_zero
attribute [local go_sem] Try.cpv copyOrV_some
attribute [local go_sem ↓] execOp_index execOp_convert execOp_box execOp_convert9
attribute [local go_sem] index_hex box_run conv_bytes eq31
attribute [local go_sem] build31
attribute [local go_sem ↓] execOp_make execOp_bslice
attribute [local go_sem] make40 bslice57 bslice58
attribute [local go_sem] bslice40
theorem fill_facts (n : Int) : (n < 0 ∧ fillN n = 0) ∨ (0 ≤ n ∧ n ≤ 4096 ∧ (fillN n : Int) = n) ∨ (4096 < n ∧ fillN n = 4096) := by
  unfold fillN
  by_cases h : n < 0
  · exact .inl ⟨h, by rw [if_pos h]⟩
  · rw [if_neg h]
    by_cases h2 : 4096 < n
    · exact .inr (.inr ⟨h2, by rw [if_pos h2]⟩)
    · exact .inr (.inl ⟨by omega, by omega, by rw [if_neg h2]; omega⟩)
theorem take_step (Y : List UInt8) (t : Nat) (h : t < Y.length) : Y.take (t + 1) = Y.take t ++ [Y.getD t 0] := by
  rw [List.take_add_one]
  congr 1
  simp [h]
def runI (W1 : World) (bm bo bq ba sv si : Nat) (g : GOp) (N : Nat) (Y : Nat → List UInt8) (iv : Nat → Int) (f : Nat → Value) (W : World) : Prop :=
  f 0 = .pointer (some ⟨bm, 0, none⟩) ∧ f 3 = .pointer (some ⟨bo, 0, none⟩) ∧ f 4 = .pointer (some ⟨bq, 0, none⟩) ∧ f 5 = .pointer (some ⟨ba, 0, none⟩) ∧ ∃ (t : Nat) (v : Value), t ≤ N ∧ f sv = v ∧ f si = .int .i64 (iv t) ∧ OwnB W1.heap.size W v (Y t) ∧ Hid (W1.Extends W) ∧ blk W bo = some g.enc
set_option maxRecDepth 20000 in
set_option maxHeartbeats 4000000 in
theorem mstep_4 (w W : World) (bm : Nat) (st : GState) (S : PS) (g : GOp) (xs : List UInt8) (hM : MAt w bm st S S.A.es S.A.es W) (hFd : MFd st S.A) (hX : BytesAt w.heap.size w g.data.a g.data.len g.data.cap xs) (hdl : g.data.len ≤ 65536) (hmh : S.mh.length ≤ 8589934592) (hes : S.A.es.length ≤ 70000) (W0 : World) (st0 : GState) (hM0 : MOut bm st0 st W0 W) (hk : g.kind = 4) :
    Calls Try.prog 20 #[.pointer (some ⟨bm, 0, none⟩), .agg g.enc.toArray] W fun e W' => MPost w bm st0 ({ S with mh := S.mh ++ be4 (UInt32.ofNat g.v.toNat) } : PS) 0 Z32 0 W0 e W' := by
  have HM0 : Hid (MOut bm st0 st W0 W) := hM0
  have hsz0 := hM0.size
  clear hM0
  have HM : Hid (MAt w bm st S S.A.es S.A.es W) := hM
  have HFD : Hid (MFd st S.A) := hFd
  have HX : Hid (BytesAt w.heap.size w g.data.a g.data.len g.data.cap xs) := hX
  have hsv : Sl.val g.data = .slice g.data.a g.data.len g.data.cap := rfl
  have hltm := hM.lt
  clear hM hFd hX
  go_enter Try.func20, Try.ntmps20
  go_upto_region 2 with fail
  refine wp_world (fun W1 => Hid (Cells bm W.heap.size (W.heap.size + 1) (W.heap.size + 1 + 1) g Answer.zero W1) ∧ Hid (W.Extends W1)) ⟨cells_new W bm g hltm, extends_alloc (extends_alloc (extends_alloc (ext_Ext (Ext.refl W)) _) _) _⟩ ?_
  rintro W1 ⟨HC1, HE1⟩
  obtain ⟨bo, hbo⟩ : ∃ bo, bo = W.heap.size := ⟨_, rfl⟩
  obtain ⟨bq, hbq⟩ : ∃ bq, bq = W.heap.size + 1 := ⟨_, rfl⟩
  obtain ⟨ba, hba⟩ : ∃ ba, ba = W.heap.size + 1 + 1 := ⟨_, rfl⟩
  rw [← hba, ← hbq, ← hbo] at HC1 ⊢
  have HBA : Hid (W0.heap.size ≤ ba ∧ W0.heap.size ≤ bq) := ⟨by omega, by omega⟩
  clear hbo hbq hba hsz0
  have HM1 : Hid (MAt w bm st S S.A.es S.A.es W1) := HM.out.grow HE1.out
  have HMO1 : Hid (MOut bm st0 st W0 W1) := HM0.out.trans (MOut.of_ext HE1.out)
  have hb1 := HM1.out.blk
  have hf1 := HM1.out.free
  have ho1 := HC1.out.op
  have ha1 := HC1.out.ans
  have haf1 := HC1.out.fre
  have n1 := HC1.out.n1
  have n2 := HC1.out.n2
  have n3 := HC1.out.n3
  have e1 := HC1.out.ne1
  have e2 := HC1.out.ne2
  have e3 := HC1.out.ne3
  have e4 : ¬ bq = ba := fun e => e1 e.symm
  have e5 : ¬ ba = bo := fun e => e2 e.symm
  have e6 : ¬ bm = ba := by omega
  have e7 : ¬ ba = bm := by omega
  have e8 : ¬ bm = bo := by omega
  have e9 : ¬ bo = bm := by omega
  have e10 : ¬ bm = bq := by omega
  clear HM HE1 hltm
  obtain ⟨B, hB0⟩ : ∃ B, B = g.v.toNat := ⟨_, rfl⟩
  have hB : w64 g.v = (B : Int) := by unfold w64; rw [hB0]
  have HB : Hid (B = g.v.toNat) := hB0
  have hBs : B < 18446744073709551616 := by rw [hB0]; exact g.v.toNat_lt
  clear hB0
  go_wp2_with fail
  refine wp_loop_f 285 (runI W1 bm bo bq ba 8 9 g 4 (fun t => (be4 (UInt32.ofNat g.v.toNat)).take t) (fun t => 3 - (t : Int))) (fun f _ => (1 + intOf (f 9)).toNat) rfl ?_ ?_
  · exact ⟨rfl, rfl, rfl, rfl, 0, _, Nat.zero_le _, rfl, rfl, OwnB.nil _ _, ext_Ext (Ext.refl _), ho1⟩
  clear ho1 ha1 haf1 hb1 hf1
  intro F Wr hrel
  obtain ⟨h0, h3, h4, h5, t, v, ht, h6, h7, hown, HE, ho1⟩ := hrel
  simp only at h7 hown
  obtain ⟨sp, c2, hv, hlc2⟩ := hown.val
  obtain ⟨L2, hL2⟩ : ∃ L2, ((be4 (UInt32.ofNat g.v.toNat)).take t).length = L2 := ⟨_, rfl⟩
  rw [hL2] at hv hlc2
  subst hv
  have HO : Hid (OwnB W1.heap.size Wr (.slice sp L2 c2) ((be4 (UInt32.ofNat g.v.toNat)).take t)) := hown
  have hL2s : L2 ≤ 4 := by rw [← hL2, List.length_take]; simp [length_be4, length_be8]; omega
  have H7 : Hid (F 9 = .int .i64 (3 - (t : Int))) := h7
  rw [frame285, h0, h3, h4, h5, h6, h7]
  clear h0 h3 h4 h5 h6 hL2 hown
  have hszE := HE.out.size
  by_cases htn : t < 4
  · have tt : t = 0 ∨ t = 1 ∨ t = 2 ∨ t = 3 := by omega
    obtain ⟨x, hx⟩ : ∃ x, (be4 (UInt32.ofNat g.v.toNat)).getD t 0 = x := ⟨_, rfl⟩
    have HX8 : Hid ((be4 (UInt32.ofNat g.v.toNat)).getD t 0 = x) := hx
    have hBB : g.v.toNat = B := HB.out.symm
    clear h7
    rcases tt with rfl | rfl | rfl | rfl
    · have d0 : IntKind.u8.wrap ((B : Int) / 16777216) = w8 x := by
        rw [IntKind.wrap_u8, ← hx, show (be4 (UInt32.ofNat g.v.toNat)).getD 0 0 = (be8 B).getD 4 0 by first | (rw [hBB]; done) | (rw [hBB]; rfl), ← be8_4]; omega
      clear hx hBB
      rw [show (Value.int .i64 (3 - (((0 : Nat)) : Int))) = Value.int .i64 3 from rfl]
      go_wp2_with (at_builtin; refine wpList_append rfl _ _ rfl W1.heap.size (.slice sp L2 c2) _ [x] (some ⟨Wr.heap.size, 0, none⟩) 1 1 rfl rfl rfl (HO.out.mono fun k hk => heap_alloc_old _ _ hk) (srcB_new Wr x 5) (by rw [World.size_alloc]; omega) (by first | (simp; done) | (simp; omega)) ?_; intro v3 w3 ho3 hg3)
      have HE3 : W1.Extends w3 := (HO.out.mono fun k hk => heap_alloc_old _ _ hk).grow (Nat.le_refl _) (extends_alloc HE.out _) hg3
      refine ⟨rfl, rfl, ?_, ?_⟩
      · refine ⟨rfl, rfl, rfl, rfl, 1, v3, by omega, rfl, rfl, ?_, HE3, (HE3.blk (blk_lt HC1.out.op)).trans HC1.out.op⟩
        show OwnB _ _ _ ((be4 (UInt32.ofNat g.v.toNat)).take (0 + 1))
        rw [take_step _ 0 (by simp [length_be4, length_be8]), HX8.out]
        exact ho3
      · show (1 + intOf (Value.int .i64 _)).toNat < (1 + intOf (F 9)).toNat
        rw [H7.out]
        decide
    · have d0 : IntKind.u8.wrap ((B : Int) / 65536) = w8 x := by
        rw [IntKind.wrap_u8, ← hx, show (be4 (UInt32.ofNat g.v.toNat)).getD 1 0 = (be8 B).getD 5 0 by first | (rw [hBB]; done) | (rw [hBB]; rfl), ← be8_5]; omega
      clear hx hBB
      rw [show (Value.int .i64 (3 - (((1 : Nat)) : Int))) = Value.int .i64 2 from rfl]
      go_wp2_with (at_builtin; refine wpList_append rfl _ _ rfl W1.heap.size (.slice sp L2 c2) _ [x] (some ⟨Wr.heap.size, 0, none⟩) 1 1 rfl rfl rfl (HO.out.mono fun k hk => heap_alloc_old _ _ hk) (srcB_new Wr x 5) (by rw [World.size_alloc]; omega) (by first | (simp; done) | (simp; omega)) ?_; intro v3 w3 ho3 hg3)
      have HE3 : W1.Extends w3 := (HO.out.mono fun k hk => heap_alloc_old _ _ hk).grow (Nat.le_refl _) (extends_alloc HE.out _) hg3
      refine ⟨rfl, rfl, ?_, ?_⟩
      · refine ⟨rfl, rfl, rfl, rfl, 2, v3, by omega, rfl, rfl, ?_, HE3, (HE3.blk (blk_lt HC1.out.op)).trans HC1.out.op⟩
        show OwnB _ _ _ ((be4 (UInt32.ofNat g.v.toNat)).take (1 + 1))
        rw [take_step _ 1 (by simp [length_be4, length_be8]), HX8.out]
        exact ho3
      · show (1 + intOf (Value.int .i64 _)).toNat < (1 + intOf (F 9)).toNat
        rw [H7.out]
        decide
    · have d0 : IntKind.u8.wrap ((B : Int) / 256) = w8 x := by
        rw [IntKind.wrap_u8, ← hx, show (be4 (UInt32.ofNat g.v.toNat)).getD 2 0 = (be8 B).getD 6 0 by first | (rw [hBB]; done) | (rw [hBB]; rfl), ← be8_6]; omega
      clear hx hBB
      rw [show (Value.int .i64 (3 - (((2 : Nat)) : Int))) = Value.int .i64 1 from rfl]
      go_wp2_with (at_builtin; refine wpList_append rfl _ _ rfl W1.heap.size (.slice sp L2 c2) _ [x] (some ⟨Wr.heap.size, 0, none⟩) 1 1 rfl rfl rfl (HO.out.mono fun k hk => heap_alloc_old _ _ hk) (srcB_new Wr x 5) (by rw [World.size_alloc]; omega) (by first | (simp; done) | (simp; omega)) ?_; intro v3 w3 ho3 hg3)
      have HE3 : W1.Extends w3 := (HO.out.mono fun k hk => heap_alloc_old _ _ hk).grow (Nat.le_refl _) (extends_alloc HE.out _) hg3
      refine ⟨rfl, rfl, ?_, ?_⟩
      · refine ⟨rfl, rfl, rfl, rfl, 3, v3, by omega, rfl, rfl, ?_, HE3, (HE3.blk (blk_lt HC1.out.op)).trans HC1.out.op⟩
        show OwnB _ _ _ ((be4 (UInt32.ofNat g.v.toNat)).take (2 + 1))
        rw [take_step _ 2 (by simp [length_be4, length_be8]), HX8.out]
        exact ho3
      · show (1 + intOf (Value.int .i64 _)).toNat < (1 + intOf (F 9)).toNat
        rw [H7.out]
        decide
    · have d0 : IntKind.u8.wrap ((B : Int)) = w8 x := by
        rw [IntKind.wrap_u8, ← hx, show (be4 (UInt32.ofNat g.v.toNat)).getD 3 0 = (be8 B).getD 7 0 by first | (rw [hBB]; done) | (rw [hBB]; rfl), ← be8_7]; omega
      clear hx hBB
      rw [show (Value.int .i64 (3 - (((3 : Nat)) : Int))) = Value.int .i64 0 from rfl]
      go_wp2_with (at_builtin; refine wpList_append rfl _ _ rfl W1.heap.size (.slice sp L2 c2) _ [x] (some ⟨Wr.heap.size, 0, none⟩) 1 1 rfl rfl rfl (HO.out.mono fun k hk => heap_alloc_old _ _ hk) (srcB_new Wr x 5) (by rw [World.size_alloc]; omega) (by first | (simp; done) | (simp; omega)) ?_; intro v3 w3 ho3 hg3)
      have HE3 : W1.Extends w3 := (HO.out.mono fun k hk => heap_alloc_old _ _ hk).grow (Nat.le_refl _) (extends_alloc HE.out _) hg3
      refine ⟨rfl, rfl, ?_, ?_⟩
      · refine ⟨rfl, rfl, rfl, rfl, 4, v3, by omega, rfl, rfl, ?_, HE3, (HE3.blk (blk_lt HC1.out.op)).trans HC1.out.op⟩
        show OwnB _ _ _ ((be4 (UInt32.ofNat g.v.toNat)).take (3 + 1))
        rw [take_step _ 3 (by simp [length_be4, length_be8]), HX8.out]
        exact ho3
      · show (1 + intOf (Value.int .i64 _)).toNat < (1 + intOf (F 9)).toNat
        rw [H7.out]
        decide
  · obtain rfl : t = 4 := by omega
    obtain ⟨a', c', e', hyx⟩ := own_bytes HO.out (by simp; omega)
    injection e' with z1 z2 z3
    have HYX : Hid (BytesAt Wr.heap.size Wr sp L2 c2 (be4 (UInt32.ofNat g.v.toNat))) := by
      show BytesAt _ _ _ _ _ _
      rw [List.take_of_length_le (by simp [length_be4, length_be8])] at hyx z2
      rw [z1, z2, z3]
      exact hyx
    clear z1 z2 z3 hyx h7
    rw [show (Value.int .i64 (3 - (((4 : Nat)) : Int))) = Value.int .i64 (-1) from rfl]
    go_wp2_with fail
    refine (feed_any w Wr bm st S S.A.es S.A.es Wr.heap.size sp L2 c2 ((be4 (UInt32.ofNat g.v.toNat))) (HM1.out.grow HE.out) HYX.out (by omega)).mono ?_
    rintro e W2 ⟨v', rfl, hM2, hMO2⟩
    have HM2 : Hid (MAt w bm _ _ _ _ W2) := hM2
    have HC2 : Hid (Cells bm bo bq ba g Answer.zero W2) := (HC1.out.grow HE.out).mout (HM1.out.grow HE.out) hMO2
    have HMO2 : Hid (MOut bm st0 _ W0 W2) := (HMO1.out.grow HE.out).trans hMO2
    have ha2 := HC2.out.ans
    have haf2 := HC2.out.fre
    clear hM2 hMO2
    go_upto_region 69 with fail
    refine wp_world (fun W3 => Hid (Cells bm bo bq ba g (Answer.zero : Answer) W3) ∧ Hid (MAt w bm ({ st with hand := v' } : GState) ({ S with mh := S.mh ++ be4 (UInt32.ofNat g.v.toNat) } : PS) ({ S with mh := S.mh ++ be4 (UInt32.ofNat g.v.toNat) } : PS).A.es ({ S with mh := S.mh ++ be4 (UInt32.ofNat g.v.toNat) } : PS).A.es W3) ∧ Hid (MFd ({ st with hand := v' } : GState) ({ S with mh := S.mh ++ be4 (UInt32.ofNat g.v.toNat) } : PS).A) ∧ Hid (MOut bm st0 ({ st with hand := v' } : GState) W0 W3)) ⟨HC2.out.put Answer.zero, HM2.out.puta _ _ n2 HC2.out.t2, HFD, HMO2.out.puta _ _ HBA.out.1⟩ ?_
    clear HC1 HM1 HMO1 HM2 HMO2 HC2 ha2 haf2 HYX HE
    obtain ⟨s3, hs3⟩ : ∃ s3 : GState, s3 = ({ st with hand := v' } : GState) := ⟨_, rfl⟩
    obtain ⟨T, hT⟩ : ∃ T : PS, T = ({ S with mh := S.mh ++ be4 (UInt32.ofNat g.v.toNat) } : PS) := ⟨_, rfl⟩
    rw [← hs3, ← hT]
    rintro W3 ⟨HC3, HM3, HF3, HMO3⟩
    have HTT : Hid (T = ({ S with mh := S.mh ++ be4 (UInt32.ofNat g.v.toNat) } : PS)) := hT
    have HLEN : Hid (T.mh.length ≤ 8590000128) := by show _ ≤ _; rw [hT]; simp [length_be4, length_be8]; omega
    clear hs3 hT
    have hb3 := HM3.out.blk
    have ha3 := HC3.out.ans
    have haf3 := HC3.out.fre
    have hq3 := HC3.out.res
    have hqf3 := HC3.out.frq
    obtain ⟨hn, hhn⟩ : ∃ hn, hn = T.mh.length := ⟨_, rfl⟩
    have hhl : s3.hand.len = hn := by
      obtain ⟨S', e, hl⟩ := row_val HM3.out.hd
      simp only [Sl.val] at e
      injection e with _ e2 _
      rw [e2, hl, hhn]
    have hhv : Sl.val s3.hand = .slice s3.hand.a hn s3.hand.cap := by rw [← hhl]; rfl
    have h0v : nth s3.enc 0 = some (.slice s3.hand.a hn s3.hand.cap) := by rw [GState.hand_get, hhv]
    obtain ⟨en, hen⟩ : ∃ en, en = T.A.es.length := ⟨_, rfl⟩
    have hil : s3.inputs.len = en := by rw [HM3.out.ins.len, hen]
    have hiv : Sl.val s3.inputs = .slice s3.inputs.a en s3.inputs.cap := by rw [← hil]; rfl
    have h66v : nth s3.enc 66 = some (.slice s3.inputs.a en s3.inputs.cap) := by rw [GState.inputs_get, hiv]
    have hhn2 : hn ≤ 8590000128 := by rw [hhn]; exact HLEN.out
    have hu1 : IntKind.u64.wrap (hn : Int) = w64 (UInt64.ofNat hn) := by rw [w64_ofNat _ (by omega), IntKind.wrap_u64]; omega
    have HHN : Hid (hn = T.mh.length) := hhn
    have HEN : Hid (en = T.A.es.length) := hen
    obtain ⟨cl, hcl⟩ : ∃ cl, cl = s3.collided := ⟨_, rfl⟩
    have h68v : nth s3.enc 68 = some (.bool cl) := by rw [GState.collided_get, hcl]
    have HCL : Hid (cl = T.A.fd.isSome) := hcl.trans HF3.out.1
    obtain ⟨D, hD⟩ : ∃ D, D = s3.enc := ⟨_, rfl⟩
    rw [← hD] at hb3 h0v h66v h68v
    clear hhn hhl hhv hen hil hiv hcl hD
    go_wp2_with fail
    refine ret_cell (C := ({ (Answer.zero : Answer) with len := UInt64.ofNat hn, noted := (en : Nat), collided := cl } : Answer).enc) rfl rfl ?_ (by kernel_rfl) (by rw [Answer.length_enc]; kernel_rfl) rfl ?_
    · rw [blk_put, if_pos rfl]
      simp only [blk_put, e4, if_false, hq3]
      rfl
    · have hmt : MAt w bm s3 T T.A.es T.A.es (put (put W3 ba ({ (Answer.zero : Answer) with len := UInt64.ofNat hn, noted := (en : Nat), collided := cl } : Answer).enc) bq ({ (Answer.zero : Answer) with len := UInt64.ofNat hn, noted := (en : Nat), collided := cl } : Answer).enc) := (HM3.out.puta _ _ n2 HC3.out.t2).puta _ _ n3 (HC3.out.t3.put _ _)
      have hmo : MOut bm st0 s3 W0 (put (put W3 ba ({ (Answer.zero : Answer) with len := UInt64.ofNat hn, noted := (en : Nat), collided := cl } : Answer).enc) bq ({ (Answer.zero : Answer) with len := UInt64.ofNat hn, noted := (en : Nat), collided := cl } : Answer).enc) := (HMO3.out.puta _ _ HBA.out.1).puta _ _ HBA.out.2
      rw [← HTT.out]
      refine ⟨s3, ?_, hmt, HF3.out, hmo⟩
      rw [HHN.out, HEN.out, HCL.out]
      rfl
set_option maxRecDepth 20000 in
set_option maxHeartbeats 4000000 in
theorem mstep_5 (w W : World) (bm : Nat) (st : GState) (S : PS) (g : GOp) (xs : List UInt8) (hM : MAt w bm st S S.A.es S.A.es W) (hFd : MFd st S.A) (hX : BytesAt w.heap.size w g.data.a g.data.len g.data.cap xs) (hdl : g.data.len ≤ 65536) (hmh : S.mh.length ≤ 8589934592) (hes : S.A.es.length ≤ 70000) (W0 : World) (st0 : GState) (hM0 : MOut bm st0 st W0 W) (hk : g.kind = 5) :
    Calls Try.prog 20 #[.pointer (some ⟨bm, 0, none⟩), .agg g.enc.toArray] W fun e W' => MPost w bm st0 ({ S with mh := S.mh ++ be8 g.v.toNat } : PS) 0 Z32 0 W0 e W' := by
  have HM0 : Hid (MOut bm st0 st W0 W) := hM0
  have hsz0 := hM0.size
  clear hM0
  have HM : Hid (MAt w bm st S S.A.es S.A.es W) := hM
  have HFD : Hid (MFd st S.A) := hFd
  have HX : Hid (BytesAt w.heap.size w g.data.a g.data.len g.data.cap xs) := hX
  have hsv : Sl.val g.data = .slice g.data.a g.data.len g.data.cap := rfl
  have hltm := hM.lt
  clear hM hFd hX
  go_enter Try.func20, Try.ntmps20
  go_upto_region 2 with fail
  refine wp_world (fun W1 => Hid (Cells bm W.heap.size (W.heap.size + 1) (W.heap.size + 1 + 1) g Answer.zero W1) ∧ Hid (W.Extends W1)) ⟨cells_new W bm g hltm, extends_alloc (extends_alloc (extends_alloc (ext_Ext (Ext.refl W)) _) _) _⟩ ?_
  rintro W1 ⟨HC1, HE1⟩
  obtain ⟨bo, hbo⟩ : ∃ bo, bo = W.heap.size := ⟨_, rfl⟩
  obtain ⟨bq, hbq⟩ : ∃ bq, bq = W.heap.size + 1 := ⟨_, rfl⟩
  obtain ⟨ba, hba⟩ : ∃ ba, ba = W.heap.size + 1 + 1 := ⟨_, rfl⟩
  rw [← hba, ← hbq, ← hbo] at HC1 ⊢
  have HBA : Hid (W0.heap.size ≤ ba ∧ W0.heap.size ≤ bq) := ⟨by omega, by omega⟩
  clear hbo hbq hba hsz0
  have HM1 : Hid (MAt w bm st S S.A.es S.A.es W1) := HM.out.grow HE1.out
  have HMO1 : Hid (MOut bm st0 st W0 W1) := HM0.out.trans (MOut.of_ext HE1.out)
  have hb1 := HM1.out.blk
  have hf1 := HM1.out.free
  have ho1 := HC1.out.op
  have ha1 := HC1.out.ans
  have haf1 := HC1.out.fre
  have n1 := HC1.out.n1
  have n2 := HC1.out.n2
  have n3 := HC1.out.n3
  have e1 := HC1.out.ne1
  have e2 := HC1.out.ne2
  have e3 := HC1.out.ne3
  have e4 : ¬ bq = ba := fun e => e1 e.symm
  have e5 : ¬ ba = bo := fun e => e2 e.symm
  have e6 : ¬ bm = ba := by omega
  have e7 : ¬ ba = bm := by omega
  have e8 : ¬ bm = bo := by omega
  have e9 : ¬ bo = bm := by omega
  have e10 : ¬ bm = bq := by omega
  clear HM HE1 hltm
  obtain ⟨B, hB0⟩ : ∃ B, B = g.v.toNat := ⟨_, rfl⟩
  have hB : w64 g.v = (B : Int) := by unfold w64; rw [hB0]
  have HB : Hid (B = g.v.toNat) := hB0
  have hBs : B < 18446744073709551616 := by rw [hB0]; exact g.v.toNat_lt
  clear hB0
  go_wp2_with fail
  refine wp_loop_f 285 (runI W1 bm bo bq ba 10 11 g 8 (fun t => (be8 g.v.toNat).take t) (fun t => 7 - (t : Int))) (fun f _ => (1 + intOf (f 11)).toNat) rfl ?_ ?_
  · exact ⟨rfl, rfl, rfl, rfl, 0, _, Nat.zero_le _, rfl, rfl, OwnB.nil _ _, ext_Ext (Ext.refl _), ho1⟩
  clear ho1 ha1 haf1 hb1 hf1
  intro F Wr hrel
  obtain ⟨h0, h3, h4, h5, t, v, ht, h6, h7, hown, HE, ho1⟩ := hrel
  simp only at h7 hown
  obtain ⟨sp, c2, hv, hlc2⟩ := hown.val
  obtain ⟨L2, hL2⟩ : ∃ L2, ((be8 g.v.toNat).take t).length = L2 := ⟨_, rfl⟩
  rw [hL2] at hv hlc2
  subst hv
  have HO : Hid (OwnB W1.heap.size Wr (.slice sp L2 c2) ((be8 g.v.toNat).take t)) := hown
  have hL2s : L2 ≤ 8 := by rw [← hL2, List.length_take]; simp [length_be4, length_be8]; omega
  have H7 : Hid (F 11 = .int .i64 (7 - (t : Int))) := h7
  rw [frame285, h0, h3, h4, h5, h6, h7]
  clear h0 h3 h4 h5 h6 hL2 hown
  have hszE := HE.out.size
  by_cases htn : t < 8
  · have tt : t = 0 ∨ t = 1 ∨ t = 2 ∨ t = 3 ∨ t = 4 ∨ t = 5 ∨ t = 6 ∨ t = 7 := by omega
    obtain ⟨x, hx⟩ : ∃ x, (be8 g.v.toNat).getD t 0 = x := ⟨_, rfl⟩
    have HX8 : Hid ((be8 g.v.toNat).getD t 0 = x) := hx
    have hBB : g.v.toNat = B := HB.out.symm
    clear h7
    rcases tt with rfl | rfl | rfl | rfl | rfl | rfl | rfl | rfl
    · have d0 : IntKind.u8.wrap ((B : Int) / 72057594037927936) = w8 x := by
        rw [IntKind.wrap_u8, ← hx, show (be8 g.v.toNat).getD 0 0 = (be8 B).getD 0 0 by first | (rw [hBB]; done) | (rw [hBB]; rfl), ← be8_0]; omega
      clear hx hBB
      rw [show (Value.int .i64 (7 - (((0 : Nat)) : Int))) = Value.int .i64 7 from rfl]
      go_wp2_with (at_builtin; refine wpList_append rfl _ _ rfl W1.heap.size (.slice sp L2 c2) _ [x] (some ⟨Wr.heap.size, 0, none⟩) 1 1 rfl rfl rfl (HO.out.mono fun k hk => heap_alloc_old _ _ hk) (srcB_new Wr x 5) (by rw [World.size_alloc]; omega) (by first | (simp; done) | (simp; omega)) ?_; intro v3 w3 ho3 hg3)
      have HE3 : W1.Extends w3 := (HO.out.mono fun k hk => heap_alloc_old _ _ hk).grow (Nat.le_refl _) (extends_alloc HE.out _) hg3
      refine ⟨rfl, rfl, ?_, ?_⟩
      · refine ⟨rfl, rfl, rfl, rfl, 1, v3, by omega, rfl, rfl, ?_, HE3, (HE3.blk (blk_lt HC1.out.op)).trans HC1.out.op⟩
        show OwnB _ _ _ ((be8 g.v.toNat).take (0 + 1))
        rw [take_step _ 0 (by simp [length_be4, length_be8]), HX8.out]
        exact ho3
      · show (1 + intOf (Value.int .i64 _)).toNat < (1 + intOf (F 11)).toNat
        rw [H7.out]
        decide
    · have d0 : IntKind.u8.wrap ((B : Int) / 281474976710656) = w8 x := by
        rw [IntKind.wrap_u8, ← hx, show (be8 g.v.toNat).getD 1 0 = (be8 B).getD 1 0 by first | (rw [hBB]; done) | (rw [hBB]; rfl), ← be8_1]; omega
      clear hx hBB
      rw [show (Value.int .i64 (7 - (((1 : Nat)) : Int))) = Value.int .i64 6 from rfl]
      go_wp2_with (at_builtin; refine wpList_append rfl _ _ rfl W1.heap.size (.slice sp L2 c2) _ [x] (some ⟨Wr.heap.size, 0, none⟩) 1 1 rfl rfl rfl (HO.out.mono fun k hk => heap_alloc_old _ _ hk) (srcB_new Wr x 5) (by rw [World.size_alloc]; omega) (by first | (simp; done) | (simp; omega)) ?_; intro v3 w3 ho3 hg3)
      have HE3 : W1.Extends w3 := (HO.out.mono fun k hk => heap_alloc_old _ _ hk).grow (Nat.le_refl _) (extends_alloc HE.out _) hg3
      refine ⟨rfl, rfl, ?_, ?_⟩
      · refine ⟨rfl, rfl, rfl, rfl, 2, v3, by omega, rfl, rfl, ?_, HE3, (HE3.blk (blk_lt HC1.out.op)).trans HC1.out.op⟩
        show OwnB _ _ _ ((be8 g.v.toNat).take (1 + 1))
        rw [take_step _ 1 (by simp [length_be4, length_be8]), HX8.out]
        exact ho3
      · show (1 + intOf (Value.int .i64 _)).toNat < (1 + intOf (F 11)).toNat
        rw [H7.out]
        decide
    · have d0 : IntKind.u8.wrap ((B : Int) / 1099511627776) = w8 x := by
        rw [IntKind.wrap_u8, ← hx, show (be8 g.v.toNat).getD 2 0 = (be8 B).getD 2 0 by first | (rw [hBB]; done) | (rw [hBB]; rfl), ← be8_2]; omega
      clear hx hBB
      rw [show (Value.int .i64 (7 - (((2 : Nat)) : Int))) = Value.int .i64 5 from rfl]
      go_wp2_with (at_builtin; refine wpList_append rfl _ _ rfl W1.heap.size (.slice sp L2 c2) _ [x] (some ⟨Wr.heap.size, 0, none⟩) 1 1 rfl rfl rfl (HO.out.mono fun k hk => heap_alloc_old _ _ hk) (srcB_new Wr x 5) (by rw [World.size_alloc]; omega) (by first | (simp; done) | (simp; omega)) ?_; intro v3 w3 ho3 hg3)
      have HE3 : W1.Extends w3 := (HO.out.mono fun k hk => heap_alloc_old _ _ hk).grow (Nat.le_refl _) (extends_alloc HE.out _) hg3
      refine ⟨rfl, rfl, ?_, ?_⟩
      · refine ⟨rfl, rfl, rfl, rfl, 3, v3, by omega, rfl, rfl, ?_, HE3, (HE3.blk (blk_lt HC1.out.op)).trans HC1.out.op⟩
        show OwnB _ _ _ ((be8 g.v.toNat).take (2 + 1))
        rw [take_step _ 2 (by simp [length_be4, length_be8]), HX8.out]
        exact ho3
      · show (1 + intOf (Value.int .i64 _)).toNat < (1 + intOf (F 11)).toNat
        rw [H7.out]
        decide
    · have d0 : IntKind.u8.wrap ((B : Int) / 4294967296) = w8 x := by
        rw [IntKind.wrap_u8, ← hx, show (be8 g.v.toNat).getD 3 0 = (be8 B).getD 3 0 by first | (rw [hBB]; done) | (rw [hBB]; rfl), ← be8_3]; omega
      clear hx hBB
      rw [show (Value.int .i64 (7 - (((3 : Nat)) : Int))) = Value.int .i64 4 from rfl]
      go_wp2_with (at_builtin; refine wpList_append rfl _ _ rfl W1.heap.size (.slice sp L2 c2) _ [x] (some ⟨Wr.heap.size, 0, none⟩) 1 1 rfl rfl rfl (HO.out.mono fun k hk => heap_alloc_old _ _ hk) (srcB_new Wr x 5) (by rw [World.size_alloc]; omega) (by first | (simp; done) | (simp; omega)) ?_; intro v3 w3 ho3 hg3)
      have HE3 : W1.Extends w3 := (HO.out.mono fun k hk => heap_alloc_old _ _ hk).grow (Nat.le_refl _) (extends_alloc HE.out _) hg3
      refine ⟨rfl, rfl, ?_, ?_⟩
      · refine ⟨rfl, rfl, rfl, rfl, 4, v3, by omega, rfl, rfl, ?_, HE3, (HE3.blk (blk_lt HC1.out.op)).trans HC1.out.op⟩
        show OwnB _ _ _ ((be8 g.v.toNat).take (3 + 1))
        rw [take_step _ 3 (by simp [length_be4, length_be8]), HX8.out]
        exact ho3
      · show (1 + intOf (Value.int .i64 _)).toNat < (1 + intOf (F 11)).toNat
        rw [H7.out]
        decide
    · have d0 : IntKind.u8.wrap ((B : Int) / 16777216) = w8 x := by
        rw [IntKind.wrap_u8, ← hx, show (be8 g.v.toNat).getD 4 0 = (be8 B).getD 4 0 by first | (rw [hBB]; done) | (rw [hBB]; rfl), ← be8_4]; omega
      clear hx hBB
      rw [show (Value.int .i64 (7 - (((4 : Nat)) : Int))) = Value.int .i64 3 from rfl]
      go_wp2_with (at_builtin; refine wpList_append rfl _ _ rfl W1.heap.size (.slice sp L2 c2) _ [x] (some ⟨Wr.heap.size, 0, none⟩) 1 1 rfl rfl rfl (HO.out.mono fun k hk => heap_alloc_old _ _ hk) (srcB_new Wr x 5) (by rw [World.size_alloc]; omega) (by first | (simp; done) | (simp; omega)) ?_; intro v3 w3 ho3 hg3)
      have HE3 : W1.Extends w3 := (HO.out.mono fun k hk => heap_alloc_old _ _ hk).grow (Nat.le_refl _) (extends_alloc HE.out _) hg3
      refine ⟨rfl, rfl, ?_, ?_⟩
      · refine ⟨rfl, rfl, rfl, rfl, 5, v3, by omega, rfl, rfl, ?_, HE3, (HE3.blk (blk_lt HC1.out.op)).trans HC1.out.op⟩
        show OwnB _ _ _ ((be8 g.v.toNat).take (4 + 1))
        rw [take_step _ 4 (by simp [length_be4, length_be8]), HX8.out]
        exact ho3
      · show (1 + intOf (Value.int .i64 _)).toNat < (1 + intOf (F 11)).toNat
        rw [H7.out]
        decide
    · have d0 : IntKind.u8.wrap ((B : Int) / 65536) = w8 x := by
        rw [IntKind.wrap_u8, ← hx, show (be8 g.v.toNat).getD 5 0 = (be8 B).getD 5 0 by first | (rw [hBB]; done) | (rw [hBB]; rfl), ← be8_5]; omega
      clear hx hBB
      rw [show (Value.int .i64 (7 - (((5 : Nat)) : Int))) = Value.int .i64 2 from rfl]
      go_wp2_with (at_builtin; refine wpList_append rfl _ _ rfl W1.heap.size (.slice sp L2 c2) _ [x] (some ⟨Wr.heap.size, 0, none⟩) 1 1 rfl rfl rfl (HO.out.mono fun k hk => heap_alloc_old _ _ hk) (srcB_new Wr x 5) (by rw [World.size_alloc]; omega) (by first | (simp; done) | (simp; omega)) ?_; intro v3 w3 ho3 hg3)
      have HE3 : W1.Extends w3 := (HO.out.mono fun k hk => heap_alloc_old _ _ hk).grow (Nat.le_refl _) (extends_alloc HE.out _) hg3
      refine ⟨rfl, rfl, ?_, ?_⟩
      · refine ⟨rfl, rfl, rfl, rfl, 6, v3, by omega, rfl, rfl, ?_, HE3, (HE3.blk (blk_lt HC1.out.op)).trans HC1.out.op⟩
        show OwnB _ _ _ ((be8 g.v.toNat).take (5 + 1))
        rw [take_step _ 5 (by simp [length_be4, length_be8]), HX8.out]
        exact ho3
      · show (1 + intOf (Value.int .i64 _)).toNat < (1 + intOf (F 11)).toNat
        rw [H7.out]
        decide
    · have d0 : IntKind.u8.wrap ((B : Int) / 256) = w8 x := by
        rw [IntKind.wrap_u8, ← hx, show (be8 g.v.toNat).getD 6 0 = (be8 B).getD 6 0 by first | (rw [hBB]; done) | (rw [hBB]; rfl), ← be8_6]; omega
      clear hx hBB
      rw [show (Value.int .i64 (7 - (((6 : Nat)) : Int))) = Value.int .i64 1 from rfl]
      go_wp2_with (at_builtin; refine wpList_append rfl _ _ rfl W1.heap.size (.slice sp L2 c2) _ [x] (some ⟨Wr.heap.size, 0, none⟩) 1 1 rfl rfl rfl (HO.out.mono fun k hk => heap_alloc_old _ _ hk) (srcB_new Wr x 5) (by rw [World.size_alloc]; omega) (by first | (simp; done) | (simp; omega)) ?_; intro v3 w3 ho3 hg3)
      have HE3 : W1.Extends w3 := (HO.out.mono fun k hk => heap_alloc_old _ _ hk).grow (Nat.le_refl _) (extends_alloc HE.out _) hg3
      refine ⟨rfl, rfl, ?_, ?_⟩
      · refine ⟨rfl, rfl, rfl, rfl, 7, v3, by omega, rfl, rfl, ?_, HE3, (HE3.blk (blk_lt HC1.out.op)).trans HC1.out.op⟩
        show OwnB _ _ _ ((be8 g.v.toNat).take (6 + 1))
        rw [take_step _ 6 (by simp [length_be4, length_be8]), HX8.out]
        exact ho3
      · show (1 + intOf (Value.int .i64 _)).toNat < (1 + intOf (F 11)).toNat
        rw [H7.out]
        decide
    · have d0 : IntKind.u8.wrap ((B : Int)) = w8 x := by
        rw [IntKind.wrap_u8, ← hx, show (be8 g.v.toNat).getD 7 0 = (be8 B).getD 7 0 by first | (rw [hBB]; done) | (rw [hBB]; rfl), ← be8_7]; omega
      clear hx hBB
      rw [show (Value.int .i64 (7 - (((7 : Nat)) : Int))) = Value.int .i64 0 from rfl]
      go_wp2_with (at_builtin; refine wpList_append rfl _ _ rfl W1.heap.size (.slice sp L2 c2) _ [x] (some ⟨Wr.heap.size, 0, none⟩) 1 1 rfl rfl rfl (HO.out.mono fun k hk => heap_alloc_old _ _ hk) (srcB_new Wr x 5) (by rw [World.size_alloc]; omega) (by first | (simp; done) | (simp; omega)) ?_; intro v3 w3 ho3 hg3)
      have HE3 : W1.Extends w3 := (HO.out.mono fun k hk => heap_alloc_old _ _ hk).grow (Nat.le_refl _) (extends_alloc HE.out _) hg3
      refine ⟨rfl, rfl, ?_, ?_⟩
      · refine ⟨rfl, rfl, rfl, rfl, 8, v3, by omega, rfl, rfl, ?_, HE3, (HE3.blk (blk_lt HC1.out.op)).trans HC1.out.op⟩
        show OwnB _ _ _ ((be8 g.v.toNat).take (7 + 1))
        rw [take_step _ 7 (by simp [length_be4, length_be8]), HX8.out]
        exact ho3
      · show (1 + intOf (Value.int .i64 _)).toNat < (1 + intOf (F 11)).toNat
        rw [H7.out]
        decide
  · obtain rfl : t = 8 := by omega
    obtain ⟨a', c', e', hyx⟩ := own_bytes HO.out (by simp; omega)
    injection e' with z1 z2 z3
    have HYX : Hid (BytesAt Wr.heap.size Wr sp L2 c2 (be8 g.v.toNat)) := by
      show BytesAt _ _ _ _ _ _
      rw [List.take_of_length_le (by simp [length_be4, length_be8])] at hyx z2
      rw [z1, z2, z3]
      exact hyx
    clear z1 z2 z3 hyx h7
    rw [show (Value.int .i64 (7 - (((8 : Nat)) : Int))) = Value.int .i64 (-1) from rfl]
    go_wp2_with fail
    refine (feed_any w Wr bm st S S.A.es S.A.es Wr.heap.size sp L2 c2 ((be8 g.v.toNat)) (HM1.out.grow HE.out) HYX.out (by omega)).mono ?_
    rintro e W2 ⟨v', rfl, hM2, hMO2⟩
    have HM2 : Hid (MAt w bm _ _ _ _ W2) := hM2
    have HC2 : Hid (Cells bm bo bq ba g Answer.zero W2) := (HC1.out.grow HE.out).mout (HM1.out.grow HE.out) hMO2
    have HMO2 : Hid (MOut bm st0 _ W0 W2) := (HMO1.out.grow HE.out).trans hMO2
    have ha2 := HC2.out.ans
    have haf2 := HC2.out.fre
    clear hM2 hMO2
    go_upto_region 69 with fail
    refine wp_world (fun W3 => Hid (Cells bm bo bq ba g (Answer.zero : Answer) W3) ∧ Hid (MAt w bm ({ st with hand := v' } : GState) ({ S with mh := S.mh ++ be8 g.v.toNat } : PS) ({ S with mh := S.mh ++ be8 g.v.toNat } : PS).A.es ({ S with mh := S.mh ++ be8 g.v.toNat } : PS).A.es W3) ∧ Hid (MFd ({ st with hand := v' } : GState) ({ S with mh := S.mh ++ be8 g.v.toNat } : PS).A) ∧ Hid (MOut bm st0 ({ st with hand := v' } : GState) W0 W3)) ⟨HC2.out.put Answer.zero, HM2.out.puta _ _ n2 HC2.out.t2, HFD, HMO2.out.puta _ _ HBA.out.1⟩ ?_
    clear HC1 HM1 HMO1 HM2 HMO2 HC2 ha2 haf2 HYX HE
    obtain ⟨s3, hs3⟩ : ∃ s3 : GState, s3 = ({ st with hand := v' } : GState) := ⟨_, rfl⟩
    obtain ⟨T, hT⟩ : ∃ T : PS, T = ({ S with mh := S.mh ++ be8 g.v.toNat } : PS) := ⟨_, rfl⟩
    rw [← hs3, ← hT]
    rintro W3 ⟨HC3, HM3, HF3, HMO3⟩
    have HTT : Hid (T = ({ S with mh := S.mh ++ be8 g.v.toNat } : PS)) := hT
    have HLEN : Hid (T.mh.length ≤ 8590000128) := by show _ ≤ _; rw [hT]; simp [length_be4, length_be8]; omega
    clear hs3 hT
    have hb3 := HM3.out.blk
    have ha3 := HC3.out.ans
    have haf3 := HC3.out.fre
    have hq3 := HC3.out.res
    have hqf3 := HC3.out.frq
    obtain ⟨hn, hhn⟩ : ∃ hn, hn = T.mh.length := ⟨_, rfl⟩
    have hhl : s3.hand.len = hn := by
      obtain ⟨S', e, hl⟩ := row_val HM3.out.hd
      simp only [Sl.val] at e
      injection e with _ e2 _
      rw [e2, hl, hhn]
    have hhv : Sl.val s3.hand = .slice s3.hand.a hn s3.hand.cap := by rw [← hhl]; rfl
    have h0v : nth s3.enc 0 = some (.slice s3.hand.a hn s3.hand.cap) := by rw [GState.hand_get, hhv]
    obtain ⟨en, hen⟩ : ∃ en, en = T.A.es.length := ⟨_, rfl⟩
    have hil : s3.inputs.len = en := by rw [HM3.out.ins.len, hen]
    have hiv : Sl.val s3.inputs = .slice s3.inputs.a en s3.inputs.cap := by rw [← hil]; rfl
    have h66v : nth s3.enc 66 = some (.slice s3.inputs.a en s3.inputs.cap) := by rw [GState.inputs_get, hiv]
    have hhn2 : hn ≤ 8590000128 := by rw [hhn]; exact HLEN.out
    have hu1 : IntKind.u64.wrap (hn : Int) = w64 (UInt64.ofNat hn) := by rw [w64_ofNat _ (by omega), IntKind.wrap_u64]; omega
    have HHN : Hid (hn = T.mh.length) := hhn
    have HEN : Hid (en = T.A.es.length) := hen
    obtain ⟨cl, hcl⟩ : ∃ cl, cl = s3.collided := ⟨_, rfl⟩
    have h68v : nth s3.enc 68 = some (.bool cl) := by rw [GState.collided_get, hcl]
    have HCL : Hid (cl = T.A.fd.isSome) := hcl.trans HF3.out.1
    obtain ⟨D, hD⟩ : ∃ D, D = s3.enc := ⟨_, rfl⟩
    rw [← hD] at hb3 h0v h66v h68v
    clear hhn hhl hhv hen hil hiv hcl hD
    go_wp2_with fail
    refine ret_cell (C := ({ (Answer.zero : Answer) with len := UInt64.ofNat hn, noted := (en : Nat), collided := cl } : Answer).enc) rfl rfl ?_ (by kernel_rfl) (by rw [Answer.length_enc]; kernel_rfl) rfl ?_
    · rw [blk_put, if_pos rfl]
      simp only [blk_put, e4, if_false, hq3]
      rfl
    · have hmt : MAt w bm s3 T T.A.es T.A.es (put (put W3 ba ({ (Answer.zero : Answer) with len := UInt64.ofNat hn, noted := (en : Nat), collided := cl } : Answer).enc) bq ({ (Answer.zero : Answer) with len := UInt64.ofNat hn, noted := (en : Nat), collided := cl } : Answer).enc) := (HM3.out.puta _ _ n2 HC3.out.t2).puta _ _ n3 (HC3.out.t3.put _ _)
      have hmo : MOut bm st0 s3 W0 (put (put W3 ba ({ (Answer.zero : Answer) with len := UInt64.ofNat hn, noted := (en : Nat), collided := cl } : Answer).enc) bq ({ (Answer.zero : Answer) with len := UInt64.ofNat hn, noted := (en : Nat), collided := cl } : Answer).enc) := (HMO3.out.puta _ _ HBA.out.1).puta _ _ HBA.out.2
      rw [← HTT.out]
      refine ⟨s3, ?_, hmt, HF3.out, hmo⟩
      rw [HHN.out, HEN.out, HCL.out]
      rfl
end Go.Proofs.Qxb6500785a
