import Derived.Test.Qxb6500785aMod5
import Derived.Test.Qxb6500785aStepB3

import Derived.Test.Qxb6500785aStream
import Derived.Test.Qxb6500785aApart
import Derived.Test.Qxb6500785aKnown
import Derived.Deep.RegionHeld
import Derived.Deep.CutRange
import Derived.Laws.ResultCell
import Derived.Laws.Rows
set_option linter.unusedSimpArgs false
set_option linter.unusedVariables false
namespace Go.Proofs.Qxb6500785a
open Go.RowKit Go.Blk
attribute [local go_sem ↓] execOp_load execOp_store execOp_alloc
attribute [local go_sem] Try.ld24 Try.st24 Try.ld5 Try.st5 Try.ld3 Try.st3 Try.ld27 Try.st27 Try.ld32 Try.st32 Try.ld33 Try.st33 Try.ld4 Try.st4 Try.ld41 Try.st41 Try.ld40 Try.st40 Try.ld42 Try.st42 Try.ld47 Try.st47 Try.ld48 Try.st48 Try.ld57 Try.st57 Try.ld58 Try.st58 Try.ld2 Try.st2 Try.ld9 Try.st9 Try.ld12 Try.st12 Try.ld21 Try.st21 Try.ld22 Try.st22 Try.ld46 Try.st46 Try.ld83 Try.st83 Try.ld95 Try.st95 Try.ld99 Try.st99 Try.ld106 Try.st106 Try.ld108 Try.st108 Try.ld134 Try.st134 Try.ld25 Try.st25 Try.ld26 Try.st26 Try.ld34 Try.st34 Try.ld31 Try.st31 Try.ld30 Try.st30 Try.ld74 Try.st74 Try.ld96 Try.st96 Try.ld101 Try.st101 Try.ld115 Try.st115 Try.ld116 Try.st116 Try.ld120 Try.st120 Try.ld121 Try.st121 Try.ld122 Try.st122 Try.ld29 Try.st29 Try.ld36 Try.st36 Try.ld38 Try.st38 Try.ld44 Try.st44 Try.ld50 Try.st50 Try.ld60 Try.st60 Try.ld110 Try.st110 Try.al25 Try.al26 Try.al34 Try.al31 Try.al30 Try.al74 Try.al96 Try.al101 Try.al115 Try.al116 Try.al120 Try.al121 Try.al122 Try.al29 Try.al36 Try.al38 Try.al44 Try.al50 Try.al60 Try.al110
attribute [local go_sem] Hasher.length_enc Hasher.ok_enc Hasher.all_get Hasher.all_set Hasher.state_get Hasher.state_set Hasher.block_get Hasher.block_set Hasher.fill_get Hasher.fill_set Hasher.length_get Hasher.length_set GLog.length_enc GLog.ok_enc GLog.all_get GLog.all_set GLog.entries_get GLog.entries_set GLog.shelves_get GLog.shelves_set GLog.first_get GLog.first_set GLog.second_get GLog.second_set GLog.found_get GLog.found_set Player.length_enc Player.ok_enc Player.all_get Player.all_set Player.hand_get Player.hand_set Player.aside_get Player.aside_set Player.prev_get Player.prev_set Player.last_get Player.last_set Player.log_get Player.log_set Player.hand_state_get Player.hand_state_set Player.hand_block_get Player.hand_block_set Player.hand_fill_get Player.hand_fill_set Player.hand_length_get Player.hand_length_set Player.aside_state_get Player.aside_state_set Player.aside_block_get Player.aside_block_set Player.aside_fill_get Player.aside_fill_set Player.aside_length_get Player.aside_length_set Player.log_entries_get Player.log_entries_set Player.log_shelves_get Player.log_shelves_set Player.log_first_get Player.log_first_set Player.log_second_get Player.log_second_set Player.log_found_get Player.log_found_set GOp.length_enc GOp.ok_enc GOp.all_get GOp.all_set GOp.kind_get GOp.kind_set GOp.data_get GOp.data_set GOp.cut_get GOp.cut_set GOp.n_get GOp.n_set GOp.b_get GOp.b_set GOp.v_get GOp.v_set GOp.dom_get GOp.dom_set GOp.sum_get GOp.sum_set Answer.length_enc Answer.ok_enc Answer.all_get Answer.all_set Answer.code_get Answer.code_set Answer.sum_get Answer.sum_set Answer.len_get Answer.len_set Answer.mark_get Answer.mark_set Answer.noted_get Answer.noted_set Answer.collided_get Answer.collided_set GState.length_enc GState.ok_enc GState.all_get GState.all_set GState.hand_get GState.hand_set GState.aside_get GState.aside_set GState.prev_get GState.prev_set GState.last_get GState.last_set GState.inputs_get GState.inputs_set GState.sums_get GState.sums_set GState.collided_get GState.collided_set GState.older_get GState.older_set GState.younger_get GState.younger_set Noted.length_enc Noted.ok_enc Noted.all_get Noted.all_set Noted.input_get Noted.input_set Noted.sum_get Noted.sum_set
attribute [local go_sem] size_put size_ext blk_put free_put blk_alloc free_alloc blk_drew free_drew blk_ext free_ext lookOr_some putOr_some segAt_some cellAt_some storeIn_some put_put put_alloc_new length_arr ok_arr_u8 ok_arr_u32 ok_arr_u64 ok_arr_i64 ok_arr_sl cellsV_agg cellsV_int cellsV_bool cellsV_string cellsV_pointer cellsV_slice cellsV_sl ok_int ok_bool ok_string ok_pointer ok_slice ok_sl toList_arr seg_arr set_arr nth_splice nth_splice0 seg_splice seg_splice0 splice_splice splice_splice0 length_splice_if
attribute [local go_sem] w32_and w32_or w32_xor w32_add w32_or8 w32_not w8_and w8_or w8_xor w32_shr2 w32_shl2 w32_shr3 w32_shl3 w32_shr6 w32_shl6 w32_shr7 w32_shl7 w32_shr8 w32_shl8 w32_shr10 w32_shl10 w32_shr11 w32_shl11 w32_shr13 w32_shl13 w32_shr14 w32_shl14 w32_shr15 w32_shl15 w32_shr16 w32_shl16 w32_shr17 w32_shl17 w32_shr18 w32_shl18 w32_shr19 w32_shl19 w32_shr21 w32_shl21 w32_shr22 w32_shl22 w32_shr24 w32_shl24 w32_shr25 w32_shl25 w32_shr26 w32_shl26 w32_shr30 w32_shl30 w8_shl24 w8_shl16 w8_shl8 v32_add v32_byte w32_byte0 v8_shl24 v8_shl16 v8_shl8 v32_shr2 v32_shl2 v32_shr3 v32_shl3 v32_shr6 v32_shl6 v32_shr7 v32_shl7 v32_shr8 v32_shl8 v32_shr10 v32_shl10 v32_shr11 v32_shl11 v32_shr13 v32_shl13 v32_shr14 v32_shl14 v32_shr15 v32_shl15 v32_shr16 v32_shl16 v32_shr17 v32_shl17 v32_shr18 v32_shl18 v32_shr19 v32_shl19 v32_shr21 v32_shl21 v32_shr22 v32_shl22 v32_shr24 v32_shl24 v32_shr25 v32_shl25 v32_shr26 v32_shl26 v32_shr30 v32_shl30
attribute [local go_sem ↓] execOp_build
attribute [local go_sem] run_build_kv run_build_iv nth_arr_u32 put_arr_u32 nth_arr_u8 put_arr_u8 v32_of8 blk_drewN free_drewN put_drewN put_drew blk_raw free_raw
attribute [local go_sem ↓] execOp_slice execOp_copy
attribute [local go_sem] Try.sl40lo Try.sl40hi Try.sl26lo Try.sl26hi Try.sl26 Try.sl96lo Try.sl96hi Try.sl96 Try.sl31lo Try.sl31 Try.sl120 Try.sl121 Try.sl121lo Try.sl121hi Try.cp40 copyOr_some copyIn_some srcB_drew srcB_drewN srcB_raw length_bv one_bv
attribute [local go_sem] Hasher.length_zero
attribute [local go_sem] Try.cpv copyOrV_some
attribute [local go_sem ↓] execOp_index execOp_convert execOp_box execOp_convert9
attribute [local go_sem] index_hex box_run conv_bytes eq31
attribute [local go_sem] build31
attribute [local go_sem ↓] execOp_make execOp_bslice
attribute [local go_sem] make40 bslice57 bslice58
set_option maxRecDepth 20000 in
set_option maxHeartbeats 4000000 in
theorem mstep_8 (w W : World) (bm : Nat) (st : GState) (S : PS) (g : GOp) (xs : List UInt8) (hM : MAt w bm st S S.A.es S.A.es W) (hFd : MFd st S.A) (hX : BytesAt w.heap.size w g.data.a g.data.len g.data.cap xs) (hdl : g.data.len ≤ 65536) (hmh : S.mh.length ≤ 8589934592) (hes : S.A.es.length ≤ 70000) (W0 : World) (st0 : GState) (hM0 : MOut bm st0 st W0 W) (hk : g.kind = 8) (hma : S.ma.length ≤ 8589934592) :
    Calls Try.prog 20 #[.pointer (some ⟨bm, 0, none⟩), .agg g.enc.toArray] W fun e W' => MPost w bm st0 ({ S with mh := S.ma, ma := S.mh } : PS) 0 Z32 0 W0 e W' := by
  have HM0 : Hid (MOut bm st0 st W0 W) := hM0
  have hsz0 := hM0.size
  clear hM0
  have HM : Hid (MAt w bm st S S.A.es S.A.es W) := hM
  have HFD : Hid (MFd st S.A) := hFd
  have HX : Hid (BytesAt w.heap.size w g.data.a g.data.len g.data.cap xs) := hX
  have hsv : Sl.val g.data = .slice g.data.a g.data.len g.data.cap := rfl
  have hltm := hM.lt
  clear hM hFd hX
  go_enter Try.func20, Try.ntmps20
  go_upto_region 2 with fail
  refine wp_world (fun W1 => Hid (Cells bm W.heap.size (W.heap.size + 1) (W.heap.size + 1 + 1) g Answer.zero W1) ∧ Hid (W.Extends W1)) ⟨cells_new W bm g hltm, extends_alloc (extends_alloc (extends_alloc (ext_Ext (Ext.refl W)) _) _) _⟩ ?_
  rintro W1 ⟨HC1, HE1⟩
  obtain ⟨bo, hbo⟩ : ∃ bo, bo = W.heap.size := ⟨_, rfl⟩
  obtain ⟨bq, hbq⟩ : ∃ bq, bq = W.heap.size + 1 := ⟨_, rfl⟩
  obtain ⟨ba, hba⟩ : ∃ ba, ba = W.heap.size + 1 + 1 := ⟨_, rfl⟩
  rw [← hba, ← hbq, ← hbo] at HC1 ⊢
  have HBA : Hid (W0.heap.size ≤ ba ∧ W0.heap.size ≤ bq) := ⟨by omega, by omega⟩
  clear hbo hbq hba hsz0
  have HM1 : Hid (MAt w bm st S S.A.es S.A.es W1) := HM.out.grow HE1.out
  have HMO1 : Hid (MOut bm st0 st W0 W1) := HM0.out.trans (MOut.of_ext HE1.out)
  have hb1 := HM1.out.blk
  have hf1 := HM1.out.free
  have ho1 := HC1.out.op
  have ha1 := HC1.out.ans
  have haf1 := HC1.out.fre
  have n1 := HC1.out.n1
  have n2 := HC1.out.n2
  have n3 := HC1.out.n3
  have e1 := HC1.out.ne1
  have e2 := HC1.out.ne2
  have e3 := HC1.out.ne3
  have e4 : ¬ bq = ba := fun e => e1 e.symm
  have e5 : ¬ ba = bo := fun e => e2 e.symm
  have e6 : ¬ bm = ba := by omega
  have e7 : ¬ ba = bm := by omega
  have e8 : ¬ bm = bo := by omega
  have e9 : ¬ bo = bm := by omega
  have e10 : ¬ bm = bq := by omega
  clear HM HE1 hltm
  have hltm := HM1.out.lt
  have HR0 := HM1.out.out (st' := ({ st with hand := st.aside, aside := st.hand } : GState)) (S' := ({ S with mh := S.ma, ma := S.mh } : PS)) ((Out.mk0 hb1).put _ hltm) HM1.out.asd HM1.out.hd (fun k q1 q2 => HM1.out.ne k q2 q1) (fun k q => q.elim .inr .inl) rfl rfl HM1.out.pv HM1.out.ls
  have HR : Hid (MAt w bm ({ st with hand := st.aside, aside := st.hand } : GState) ({ S with mh := S.ma, ma := S.mh } : PS) S.A.es S.A.es ((put W1 bm (({ st with hand := st.aside, aside := st.hand } : GState)).enc).drew) ∧ MOut bm st ({ st with hand := st.aside, aside := st.hand } : GState) W1 ((put W1 bm (({ st with hand := st.aside, aside := st.hand } : GState)).enc).drew)) := ⟨HR0.1.grow (extends_drew (ext_Ext (Ext.refl _))), HR0.2.grow (extends_drew (ext_Ext (Ext.refl _)))⟩
  clear HR0
  go_wp2_with fail
  refine wp_region_held_drew (S := fun W' => True ∧ True) (by kernel_rfl) ⟨trivial, trivial⟩ (fun hHeld => ?_)
  refine wpAnyH_take (i := 0) (oi := ⟨_, _, _, _, _, _⟩) (v := ?_) rfl (by kernel_rfl) (by kernel_rfl) (by kernel_rfl) (fun _ _ _ h => h) (Or.inl ⟨by rfl, ?_⟩) (by assumption) ?_
  rotate_left 1
  · intro W' hSw
    obtain ⟨hS1, hS2⟩ := hSw
    go_simp
    try with_reducible rfl
  try simp only [Act.put, List.setIfInBounds_toArray, List.set_cons_zero, List.set_cons_succ]
  refine wpAnyH_take (i := 1) (oi := ⟨_, _, _, _, _, _⟩) (v := ?_) rfl (by kernel_rfl) (by kernel_rfl) (by kernel_rfl) (fun _ _ _ h => h) (Or.inl ⟨by rfl, ?_⟩) (by assumption) ?_
  rotate_left 1
  · intro W' hSw
    obtain ⟨hS1, hS2⟩ := hSw
    go_simp
    try with_reducible rfl
  try simp only [Act.put, List.setIfInBounds_toArray, List.set_cons_zero, List.set_cons_succ]
  refine wpAnyH_take (i := 2) (oi := ⟨_, _, _, _, _, _⟩) (v := ?_) rfl (by kernel_rfl) (by kernel_rfl) (by kernel_rfl) (fun _ _ _ h => h) (Or.inl ⟨by rfl, ?_⟩) (by assumption) ?_
  rotate_left 1
  · intro W' hSw
    obtain ⟨hS1, hS2⟩ := hSw
    go_simp
    try with_reducible rfl
  try simp only [Act.put, List.setIfInBounds_toArray, List.set_cons_zero, List.set_cons_succ]
  refine wpAnyH_take (i := 3) (oi := ⟨_, _, _, _, _, _⟩) (v := ?_) rfl (by kernel_rfl) (by kernel_rfl) (by kernel_rfl) (fun _ _ _ h => h) (Or.inl ⟨by rfl, ?_⟩) (by assumption) ?_
  rotate_left 1
  · intro W' hSw
    obtain ⟨hS1, hS2⟩ := hSw
    go_simp
    try with_reducible rfl
  try simp only [Act.put, List.setIfInBounds_toArray, List.set_cons_zero, List.set_cons_succ]
  refine wpAnyH_take (i := 4) (oi := ⟨_, _, _, _, _, _⟩) (v := ?_) rfl (by kernel_rfl) (by kernel_rfl) (by kernel_rfl) (fun _ _ _ h => h) (Or.inl ⟨by rfl, ?_⟩) (by assumption) ?_
  rotate_left 1
  · intro W' hSw
    obtain ⟨hS1, hS2⟩ := hSw
    go_simp
    try with_reducible rfl
  try simp only [Act.put, List.setIfInBounds_toArray, List.set_cons_zero, List.set_cons_succ]
  refine wpAnyH_take (i := 6) (oi := ⟨_, _, _, _, _, _⟩) (v := ?_) rfl (by kernel_rfl) (by kernel_rfl) (by kernel_rfl) (fun _ _ _ h => h) (Or.inl ⟨by rfl, ?_⟩) (by assumption) ?_
  rotate_left 1
  · intro W' hSw
    obtain ⟨hS1, hS2⟩ := hSw
    go_simp
    try with_reducible rfl
  try simp only [Act.put, List.setIfInBounds_toArray, List.set_cons_zero, List.set_cons_succ]
  refine wpAnyH_take (i := 7) (oi := ⟨_, _, _, _, _, _⟩) (v := ?_) rfl (by kernel_rfl) (by kernel_rfl) (by kernel_rfl) (fun _ _ _ h => h) (Or.inl ⟨by rfl, ?_⟩) (by assumption) ?_
  rotate_left 1
  · intro W' hSw
    obtain ⟨hS1, hS2⟩ := hSw
    go_simp
    try with_reducible rfl
  try simp only [Act.put, List.setIfInBounds_toArray, List.set_cons_zero, List.set_cons_succ]
  refine wpAnyH_take (i := 8) (oi := ⟨_, _, _, _, _, _⟩) (v := ?_) rfl (by kernel_rfl) (by kernel_rfl) (by kernel_rfl) (fun _ _ _ h => h) (Or.inl ⟨by rfl, ?_⟩) (by assumption) ?_
  rotate_left 1
  · intro W' hSw
    obtain ⟨hS1, hS2⟩ := hSw
    go_simp
    try with_reducible rfl
  try simp only [Act.put, List.setIfInBounds_toArray, List.set_cons_zero, List.set_cons_succ]
  refine wpAnyH_ready (rs := [5, 9]) (by kernel_rfl) (by simp) ?_
  refine AllReadyH.cons (o := ⟨_, _, _, _, _, _⟩) rfl (fun K hK => ?_) (AllReadyH.cons (o := ⟨_, _, _, _, _, _⟩) rfl (fun K hK => ?_) AllReadyH.nil)
  · skip
    go_simp
    refine hK.out _ _ ⟨trivial, trivial⟩ (fun hHeld => ?_)
    clear hK K
    try simp only [Act.put, List.setIfInBounds_toArray, List.set_cons_zero, List.set_cons_succ]
    refine wpAnyH_ready (rs := [9]) (by kernel_rfl) (by simp) ?_
    refine AllReadyH.cons (o := ⟨_, _, _, _, _, _⟩) rfl (fun K hK => ?_) AllReadyH.nil
    go_simp
    refine hK.out _ _ ⟨trivial, trivial⟩ (fun hHeld => ?_)
    clear hK K
    try simp only [Act.put, List.setIfInBounds_toArray, List.set_cons_zero, List.set_cons_succ]
    refine wpAnyH_take (i := 10) (oi := ⟨_, _, _, _, _, _⟩) (v := ?_) rfl (by kernel_rfl) (by kernel_rfl) (by kernel_rfl) (fun _ _ _ h => h) (Or.inl ⟨by rfl, ?_⟩) (by assumption) ?_
    rotate_left 1
    · intro W' hSw
      obtain ⟨hS1, hS2⟩ := hSw
      go_simp
      try with_reducible rfl
    try simp only [Act.put, List.setIfInBounds_toArray, List.set_cons_zero, List.set_cons_succ]
    refine wpAnyH_take (i := 11) (oi := ⟨_, _, _, _, _, _⟩) (v := ?_) rfl (by kernel_rfl) (by kernel_rfl) (by kernel_rfl) (fun _ _ _ h => h) (Or.inl ⟨by rfl, ?_⟩) (by assumption) ?_
    rotate_left 1
    · intro W' hSw
      obtain ⟨hS1, hS2⟩ := hSw
      go_simp
      try with_reducible rfl
    try simp only [Act.put, List.setIfInBounds_toArray, List.set_cons_zero, List.set_cons_succ]
    refine wpAnyH_ready (rs := [12]) (by kernel_rfl) (by simp) ?_
    refine AllReadyH.cons (o := ⟨_, _, _, _, _, _⟩) rfl (fun K hK => ?_) AllReadyH.nil
    go_simp
    refine hK.out _ _ ⟨trivial, trivial⟩ (fun hHeld => ?_)
    clear hK K
    try simp only [Act.put, List.setIfInBounds_toArray, List.set_cons_zero, List.set_cons_succ]
    refine wpAnyH_take (i := 13) (oi := ⟨_, _, _, _, _, _⟩) (v := ?_) rfl (by kernel_rfl) (by kernel_rfl) (by kernel_rfl) (fun _ _ _ h => h) (Or.inl ⟨by rfl, ?_⟩) (by assumption) ?_
    rotate_left 1
    · intro W' hSw
      obtain ⟨hS1, hS2⟩ := hSw
      go_simp
      try with_reducible rfl
    try simp only [Act.put, List.setIfInBounds_toArray, List.set_cons_zero, List.set_cons_succ]
    refine wpAnyH_take (i := 14) (oi := ⟨_, _, _, _, _, _⟩) (v := ?_) rfl (by kernel_rfl) (by kernel_rfl) (by kernel_rfl) (fun _ _ _ h => h) (Or.inl ⟨by rfl, ?_⟩) (by assumption) ?_
    rotate_left 1
    · intro W' hSw
      obtain ⟨hS1, hS2⟩ := hSw
      go_simp
      try with_reducible rfl
    try simp only [Act.put, List.setIfInBounds_toArray, List.set_cons_zero, List.set_cons_succ]
    refine wpAnyH_ready (rs := [15]) (by kernel_rfl) (by simp) ?_
    refine AllReadyH.cons (o := ⟨_, _, _, _, _, _⟩) rfl (fun K hK => ?_) AllReadyH.nil
    go_simp
    refine hK.out _ _ ⟨trivial, trivial⟩ (fun hHeld => ?_)
    clear hK K
    try simp only [Act.put, List.setIfInBounds_toArray, List.set_cons_zero, List.set_cons_succ]
    refine wpAnyH_done (by kernel_rfl) ?_ _
    go_upto_region 69 with fail
    refine wp_world (fun W3 => Hid (Cells bm bo bq ba g (Answer.zero : Answer) W3) ∧ Hid (MAt w bm ({ st with hand := st.aside, aside := st.hand } : GState) ({ S with mh := S.ma, ma := S.mh } : PS) ({ S with mh := S.ma, ma := S.mh } : PS).A.es ({ S with mh := S.ma, ma := S.mh } : PS).A.es W3) ∧ Hid (MFd ({ st with hand := st.aside, aside := st.hand } : GState) ({ S with mh := S.ma, ma := S.mh } : PS).A) ∧ Hid (MOut bm st0 ({ st with hand := st.aside, aside := st.hand } : GState) W0 W3)) ⟨HC1.out.mout HM1.out HR.out.2, HR.out.1, HFD, HMO1.out.trans HR.out.2⟩ ?_
    clear hb1 hf1 ho1 ha1 haf1 HC1 HM1 HMO1 HR
    obtain ⟨s3, hs3⟩ : ∃ s3 : GState, s3 = ({ st with hand := st.aside, aside := st.hand } : GState) := ⟨_, rfl⟩
    obtain ⟨T, hT⟩ : ∃ T : PS, T = ({ S with mh := S.ma, ma := S.mh } : PS) := ⟨_, rfl⟩
    rw [← hs3, ← hT]
    rintro W3 ⟨HC3, HM3, HF3, HMO3⟩
    have HTT : Hid (T = ({ S with mh := S.ma, ma := S.mh } : PS)) := hT
    have HLEN : Hid (T.mh.length ≤ 8590000128) := by show _ ≤ _; rw [hT]; show S.ma.length ≤ _; omega
    clear hs3 hT
    have hb3 := HM3.out.blk
    have ha3 := HC3.out.ans
    have haf3 := HC3.out.fre
    have hq3 := HC3.out.res
    have hqf3 := HC3.out.frq
    obtain ⟨hn, hhn⟩ : ∃ hn, hn = T.mh.length := ⟨_, rfl⟩
    have hhl : s3.hand.len = hn := by
      obtain ⟨S', e, hl⟩ := row_val HM3.out.hd
      simp only [Sl.val] at e
      injection e with _ e2 _
      rw [e2, hl, hhn]
    have hhv : Sl.val s3.hand = .slice s3.hand.a hn s3.hand.cap := by rw [← hhl]; rfl
    have h0v : nth s3.enc 0 = some (.slice s3.hand.a hn s3.hand.cap) := by rw [GState.hand_get, hhv]
    obtain ⟨en, hen⟩ : ∃ en, en = T.A.es.length := ⟨_, rfl⟩
    have hil : s3.inputs.len = en := by rw [HM3.out.ins.len, hen]
    have hiv : Sl.val s3.inputs = .slice s3.inputs.a en s3.inputs.cap := by rw [← hil]; rfl
    have h66v : nth s3.enc 66 = some (.slice s3.inputs.a en s3.inputs.cap) := by rw [GState.inputs_get, hiv]
    have hhn2 : hn ≤ 8590000128 := by rw [hhn]; exact HLEN.out
    have hu1 : IntKind.u64.wrap (hn : Int) = w64 (UInt64.ofNat hn) := by rw [w64_ofNat _ (by omega), IntKind.wrap_u64]; omega
    have HHN : Hid (hn = T.mh.length) := hhn
    have HEN : Hid (en = T.A.es.length) := hen
    obtain ⟨cl, hcl⟩ : ∃ cl, cl = s3.collided := ⟨_, rfl⟩
    have h68v : nth s3.enc 68 = some (.bool cl) := by rw [GState.collided_get, hcl]
    have HCL : Hid (cl = T.A.fd.isSome) := hcl.trans HF3.out.1
    obtain ⟨D, hD⟩ : ∃ D, D = s3.enc := ⟨_, rfl⟩
    rw [← hD] at hb3 h0v h66v h68v
    clear hhn hhl hhv hen hil hiv hcl hD
    go_wp2_with fail
    refine ret_cell (C := ({ (Answer.zero : Answer) with len := UInt64.ofNat hn, noted := (en : Nat), collided := cl } : Answer).enc) rfl rfl ?_ (by kernel_rfl) (by rw [Answer.length_enc]; kernel_rfl) rfl ?_
    · rw [blk_put, if_pos rfl]
      simp only [blk_put, e4, if_false, hq3]
      rfl
    · have hmt : MAt w bm s3 T T.A.es T.A.es (put (put W3 ba ({ (Answer.zero : Answer) with len := UInt64.ofNat hn, noted := (en : Nat), collided := cl } : Answer).enc) bq ({ (Answer.zero : Answer) with len := UInt64.ofNat hn, noted := (en : Nat), collided := cl } : Answer).enc) := (HM3.out.puta _ _ n2 HC3.out.t2).puta _ _ n3 (HC3.out.t3.put _ _)
      have hmo : MOut bm st0 s3 W0 (put (put W3 ba ({ (Answer.zero : Answer) with len := UInt64.ofNat hn, noted := (en : Nat), collided := cl } : Answer).enc) bq ({ (Answer.zero : Answer) with len := UInt64.ofNat hn, noted := (en : Nat), collided := cl } : Answer).enc) := (HMO3.out.puta _ _ HBA.out.1).puta _ _ HBA.out.2
      rw [← HTT.out]
      refine ⟨s3, ?_, hmt, HF3.out, hmo⟩
      rw [HHN.out, HEN.out, HCL.out]
      rfl
  · skip
    go_simp
    refine hK.out _ _ ⟨trivial, trivial⟩ (fun hHeld => ?_)
    clear hK K
    try simp only [Act.put, List.setIfInBounds_toArray, List.set_cons_zero, List.set_cons_succ]
    refine wpAnyH_ready (rs := [5]) (by kernel_rfl) (by simp) ?_
    refine AllReadyH.cons (o := ⟨_, _, _, _, _, _⟩) rfl (fun K hK => ?_) AllReadyH.nil
    go_simp
    refine hK.out _ _ ⟨trivial, trivial⟩ (fun hHeld => ?_)
    clear hK K
    try simp only [Act.put, List.setIfInBounds_toArray, List.set_cons_zero, List.set_cons_succ]
    refine wpAnyH_take (i := 10) (oi := ⟨_, _, _, _, _, _⟩) (v := ?_) rfl (by kernel_rfl) (by kernel_rfl) (by kernel_rfl) (fun _ _ _ h => h) (Or.inl ⟨by rfl, ?_⟩) (by assumption) ?_
    rotate_left 1
    · intro W' hSw
      obtain ⟨hS1, hS2⟩ := hSw
      go_simp
      try with_reducible rfl
    try simp only [Act.put, List.setIfInBounds_toArray, List.set_cons_zero, List.set_cons_succ]
    refine wpAnyH_take (i := 11) (oi := ⟨_, _, _, _, _, _⟩) (v := ?_) rfl (by kernel_rfl) (by kernel_rfl) (by kernel_rfl) (fun _ _ _ h => h) (Or.inl ⟨by rfl, ?_⟩) (by assumption) ?_
    rotate_left 1
    · intro W' hSw
      obtain ⟨hS1, hS2⟩ := hSw
      go_simp
      try with_reducible rfl
    try simp only [Act.put, List.setIfInBounds_toArray, List.set_cons_zero, List.set_cons_succ]
    refine wpAnyH_ready (rs := [12]) (by kernel_rfl) (by simp) ?_
    refine AllReadyH.cons (o := ⟨_, _, _, _, _, _⟩) rfl (fun K hK => ?_) AllReadyH.nil
    go_simp
    refine hK.out _ _ ⟨trivial, trivial⟩ (fun hHeld => ?_)
    clear hK K
    try simp only [Act.put, List.setIfInBounds_toArray, List.set_cons_zero, List.set_cons_succ]
    refine wpAnyH_take (i := 13) (oi := ⟨_, _, _, _, _, _⟩) (v := ?_) rfl (by kernel_rfl) (by kernel_rfl) (by kernel_rfl) (fun _ _ _ h => h) (Or.inl ⟨by rfl, ?_⟩) (by assumption) ?_
    rotate_left 1
    · intro W' hSw
      obtain ⟨hS1, hS2⟩ := hSw
      go_simp
      try with_reducible rfl
    try simp only [Act.put, List.setIfInBounds_toArray, List.set_cons_zero, List.set_cons_succ]
    refine wpAnyH_take (i := 14) (oi := ⟨_, _, _, _, _, _⟩) (v := ?_) rfl (by kernel_rfl) (by kernel_rfl) (by kernel_rfl) (fun _ _ _ h => h) (Or.inl ⟨by rfl, ?_⟩) (by assumption) ?_
    rotate_left 1
    · intro W' hSw
      obtain ⟨hS1, hS2⟩ := hSw
      go_simp
      try with_reducible rfl
    try simp only [Act.put, List.setIfInBounds_toArray, List.set_cons_zero, List.set_cons_succ]
    refine wpAnyH_ready (rs := [15]) (by kernel_rfl) (by simp) ?_
    refine AllReadyH.cons (o := ⟨_, _, _, _, _, _⟩) rfl (fun K hK => ?_) AllReadyH.nil
    go_simp
    refine hK.out _ _ ⟨trivial, trivial⟩ (fun hHeld => ?_)
    clear hK K
    try simp only [Act.put, List.setIfInBounds_toArray, List.set_cons_zero, List.set_cons_succ]
    refine wpAnyH_done (by kernel_rfl) ?_ _
    go_upto_region 69 with fail
    refine wp_world (fun W3 => Hid (Cells bm bo bq ba g (Answer.zero : Answer) W3) ∧ Hid (MAt w bm ({ st with hand := st.aside, aside := st.hand } : GState) ({ S with mh := S.ma, ma := S.mh } : PS) ({ S with mh := S.ma, ma := S.mh } : PS).A.es ({ S with mh := S.ma, ma := S.mh } : PS).A.es W3) ∧ Hid (MFd ({ st with hand := st.aside, aside := st.hand } : GState) ({ S with mh := S.ma, ma := S.mh } : PS).A) ∧ Hid (MOut bm st0 ({ st with hand := st.aside, aside := st.hand } : GState) W0 W3)) ⟨HC1.out.mout HM1.out HR.out.2, HR.out.1, HFD, HMO1.out.trans HR.out.2⟩ ?_
    clear hb1 hf1 ho1 ha1 haf1 HC1 HM1 HMO1 HR
    obtain ⟨s3, hs3⟩ : ∃ s3 : GState, s3 = ({ st with hand := st.aside, aside := st.hand } : GState) := ⟨_, rfl⟩
    obtain ⟨T, hT⟩ : ∃ T : PS, T = ({ S with mh := S.ma, ma := S.mh } : PS) := ⟨_, rfl⟩
    rw [← hs3, ← hT]
    rintro W3 ⟨HC3, HM3, HF3, HMO3⟩
    have HTT : Hid (T = ({ S with mh := S.ma, ma := S.mh } : PS)) := hT
    have HLEN : Hid (T.mh.length ≤ 8590000128) := by show _ ≤ _; rw [hT]; show S.ma.length ≤ _; omega
    clear hs3 hT
    have hb3 := HM3.out.blk
    have ha3 := HC3.out.ans
    have haf3 := HC3.out.fre
    have hq3 := HC3.out.res
    have hqf3 := HC3.out.frq
    obtain ⟨hn, hhn⟩ : ∃ hn, hn = T.mh.length := ⟨_, rfl⟩
    have hhl : s3.hand.len = hn := by
      obtain ⟨S', e, hl⟩ := row_val HM3.out.hd
      simp only [Sl.val] at e
      injection e with _ e2 _
      rw [e2, hl, hhn]
    have hhv : Sl.val s3.hand = .slice s3.hand.a hn s3.hand.cap := by rw [← hhl]; rfl
    have h0v : nth s3.enc 0 = some (.slice s3.hand.a hn s3.hand.cap) := by rw [GState.hand_get, hhv]
    obtain ⟨en, hen⟩ : ∃ en, en = T.A.es.length := ⟨_, rfl⟩
    have hil : s3.inputs.len = en := by rw [HM3.out.ins.len, hen]
    have hiv : Sl.val s3.inputs = .slice s3.inputs.a en s3.inputs.cap := by rw [← hil]; rfl
    have h66v : nth s3.enc 66 = some (.slice s3.inputs.a en s3.inputs.cap) := by rw [GState.inputs_get, hiv]
    have hhn2 : hn ≤ 8590000128 := by rw [hhn]; exact HLEN.out
    have hu1 : IntKind.u64.wrap (hn : Int) = w64 (UInt64.ofNat hn) := by rw [w64_ofNat _ (by omega), IntKind.wrap_u64]; omega
    have HHN : Hid (hn = T.mh.length) := hhn
    have HEN : Hid (en = T.A.es.length) := hen
    obtain ⟨cl, hcl⟩ : ∃ cl, cl = s3.collided := ⟨_, rfl⟩
    have h68v : nth s3.enc 68 = some (.bool cl) := by rw [GState.collided_get, hcl]
    have HCL : Hid (cl = T.A.fd.isSome) := hcl.trans HF3.out.1
    obtain ⟨D, hD⟩ : ∃ D, D = s3.enc := ⟨_, rfl⟩
    rw [← hD] at hb3 h0v h66v h68v
    clear hhn hhl hhv hen hil hiv hcl hD
    go_wp2_with fail
    refine ret_cell (C := ({ (Answer.zero : Answer) with len := UInt64.ofNat hn, noted := (en : Nat), collided := cl } : Answer).enc) rfl rfl ?_ (by kernel_rfl) (by rw [Answer.length_enc]; kernel_rfl) rfl ?_
    · rw [blk_put, if_pos rfl]
      simp only [blk_put, e4, if_false, hq3]
      rfl
    · have hmt : MAt w bm s3 T T.A.es T.A.es (put (put W3 ba ({ (Answer.zero : Answer) with len := UInt64.ofNat hn, noted := (en : Nat), collided := cl } : Answer).enc) bq ({ (Answer.zero : Answer) with len := UInt64.ofNat hn, noted := (en : Nat), collided := cl } : Answer).enc) := (HM3.out.puta _ _ n2 HC3.out.t2).puta _ _ n3 (HC3.out.t3.put _ _)
      have hmo : MOut bm st0 s3 W0 (put (put W3 ba ({ (Answer.zero : Answer) with len := UInt64.ofNat hn, noted := (en : Nat), collided := cl } : Answer).enc) bq ({ (Answer.zero : Answer) with len := UInt64.ofNat hn, noted := (en : Nat), collided := cl } : Answer).enc) := (HMO3.out.puta _ _ HBA.out.1).puta _ _ HBA.out.2
      rw [← HTT.out]
      refine ⟨s3, ?_, hmt, HF3.out, hmo⟩
      rw [HHN.out, HEN.out, HCL.out]
      rfl
end Go.Proofs.Qxb6500785a
