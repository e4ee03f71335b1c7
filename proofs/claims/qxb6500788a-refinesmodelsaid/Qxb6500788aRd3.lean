import Derived.Test.Qxb6500788aRd2
import Derived.StillTailTactics
import Derived.Deep.QuietTactic
import Derived.BigQuiet
import Derived.Deep.RegionHeld
import Derived.Deep.CutRange
import Derived.Laws.ResultCell
import Derived.Laws.Rows
import Derived.DeepKeys
import Derived.DataBytes
import Derived.Laws.StructEq
import Derived.Laws.AppendOwn
set_option linter.unusedSimpArgs false
set_option linter.unusedVariables false
namespace Go.Proofs.Qxb6500788a
open Go.RowKit Go.Blk
attribute [local go_sem ↓] execOp_load execOp_store execOp_alloc
attribute [local go_sem] Try.ld24 Try.st24 Try.ld25 Try.st25 Try.ld3 Try.st3 Try.ld30 Try.st30 Try.ld36 Try.st36 Try.ld4 Try.st4 Try.ld41 Try.st41 Try.ld50 Try.st50 Try.ld40 Try.st40 Try.ld42 Try.st42 Try.ld89 Try.st89 Try.ld91 Try.st91 Try.ld56 Try.st56 Try.ld97 Try.st97 Try.ld98 Try.st98 Try.ld101 Try.st101 Try.ld104 Try.st104 Try.ld57 Try.st57 Try.ld130 Try.st130 Try.ld2 Try.st2 Try.ld5 Try.st5 Try.ld9 Try.st9 Try.ld12 Try.st12 Try.ld21 Try.st21 Try.ld22 Try.st22 Try.ld29 Try.st29 Try.ld33 Try.st33 Try.ld59 Try.st59 Try.ld62 Try.st62 Try.ld69 Try.st69 Try.ld94 Try.st94 Try.ld96 Try.st96 Try.ld129 Try.st129 Try.ld158 Try.st158 Try.ld162 Try.st162 Try.ld47 Try.st47 Try.ld44 Try.st44 Try.ld137 Try.st137 Try.ld145 Try.st145 Try.ld43 Try.st43 Try.ld27 Try.st27 Try.ld38 Try.st38 Try.ld46 Try.st46 Try.ld49 Try.st49 Try.ld52 Try.st52 Try.ld54 Try.st54 Try.ld61 Try.st61 Try.ld80 Try.st80 Try.ld87 Try.st87 Try.ld93 Try.st93 Try.ld100 Try.st100 Try.ld103 Try.st103 Try.ld106 Try.st106 Try.ld109 Try.st109 Try.ld132 Try.st132 Try.ld147 Try.st147 Try.al47 Try.al44 Try.al137 Try.al145 Try.al43 Try.al27 Try.al38 Try.al46 Try.al49 Try.al52 Try.al54 Try.al61 Try.al80 Try.al87 Try.al93 Try.al100 Try.al103 Try.al106 Try.al109 Try.al132 Try.al147
attribute [local go_sem] GProgram.length_enc GProgram.ok_enc GProgram.all_get GProgram.all_set GProgram.preds_get GProgram.preds_set GProgram.rules_get GProgram.rules_set GProgram.strata_get GProgram.strata_set Answer.length_enc Answer.ok_enc Answer.all_get Answer.all_set Answer.code_get Answer.code_set Answer.n_get Answer.n_set Answer.rows_get Answer.rows_set Term.length_enc Term.ok_enc Term.all_get Term.all_set Term.var_get Term.var_set Term.n_get Term.n_set Atom.length_enc Atom.ok_enc Atom.all_get Atom.all_set Atom.pred_get Atom.pred_set Atom.args_get Atom.args_set GRule.length_enc GRule.ok_enc GRule.all_get GRule.all_set GRule.head_get GRule.head_set GRule.body_get GRule.body_set GRule.head_pred_get GRule.head_pred_set GRule.head_args_get GRule.head_args_set GOp.length_enc GOp.ok_enc GOp.all_get GOp.all_set GOp.kind_get GOp.kind_set GOp.pred_get GOp.pred_set GOp.t_get GOp.t_set GOp.n_get GOp.n_set GOp.base_get GOp.base_set GOp.rule_get GOp.rule_set GOp.rule_head_get GOp.rule_head_set GOp.rule_body_get GOp.rule_body_set GOp.rule_head_pred_get GOp.rule_head_pred_set GOp.rule_head_args_get GOp.rule_head_args_set PredInfo.length_enc PredInfo.ok_enc PredInfo.all_get PredInfo.all_set PredInfo.arity_get PredInfo.arity_set PredInfo.base_get PredInfo.base_set PredInfo.stratum_get PredInfo.stratum_set GStats.length_enc GStats.ok_enc GStats.all_get GStats.all_set GStats.rounds_get GStats.rounds_set GStats.fired_get GStats.fired_set GStats.emitted_get GStats.emitted_set GStats.fresh_get GStats.fresh_set Literal.length_enc Literal.ok_enc Literal.all_get Literal.all_set Literal.neg_get Literal.neg_set Literal.atom_get Literal.atom_set Literal.atom_pred_get Literal.atom_pred_set Literal.atom_args_get Literal.atom_args_set Engine.length_enc Engine.ok_enc Engine.all_get Engine.all_set Engine.prog_get Engine.prog_set Engine.st_get Engine.st_set Engine.levels_get Engine.levels_set Engine.running_get Engine.running_set Engine.stratum_get Engine.stratum_set Engine.round_get Engine.round_set Engine.saved_get Engine.saved_set Engine.stats_get Engine.stats_set Engine.prog_preds_get Engine.prog_preds_set Engine.prog_rules_get Engine.prog_rules_set Engine.prog_strata_get Engine.prog_strata_set Engine.stats_rounds_get Engine.stats_rounds_set Engine.stats_fired_get Engine.stats_fired_set Engine.stats_emitted_get Engine.stats_emitted_set Engine.stats_fresh_get Engine.stats_fresh_set Level.length_enc Level.ok_enc Level.all_get Level.all_set Level.heads_get Level.heads_set Level.jobs_get Level.jobs_set Plan.length_enc Plan.ok_enc Plan.all_get Plan.all_set Plan.rule_get Plan.rule_set Plan.delta_get Plan.delta_set Plan.src_get Plan.src_set Job.length_enc Job.ok_enc Job.all_get Job.all_set Job.full_get Job.full_set Job.deltas_get Job.deltas_set Job.full_rule_get Job.full_rule_set Job.full_delta_get Job.full_delta_set Job.full_src_get Job.full_src_set GState.length_enc GState.ok_enc GState.all_get GState.all_set GState.prog_get GState.prog_set GState.base_get GState.base_set GState.shown_get GState.shown_set GState.prog_preds_get GState.prog_preds_set GState.prog_rules_get GState.prog_rules_set GState.prog_strata_get GState.prog_strata_set Store.length_enc Store.ok_enc Store.all_get Store.all_set Store.arity_get Store.arity_set Store.rows_get Store.rows_set Env.length_enc Env.ok_enc Env.all_get Env.all_set Env.val_get Env.val_set Env.set_get Env.set_set
attribute [local go_sem] size_put size_ext blk_put free_put blk_alloc free_alloc blk_drew free_drew blk_ext free_ext lookOr_some putOr_some segAt_some cellAt_some storeIn_some put_put put_alloc_new length_arr ok_arr_u8 ok_arr_u32 ok_arr_u64 ok_arr_i64 ok_arr_sl cellsV_agg cellsV_int cellsV_bool cellsV_string cellsV_pointer cellsV_slice cellsV_sl ok_int ok_bool ok_string ok_pointer ok_slice ok_sl toList_arr seg_arr set_arr nth_splice nth_splice0 seg_splice seg_splice0 splice_splice splice_splice0 length_splice_if
attribute [local go_sem ↓] execOp_box
attribute [local go_sem] box_run nth_arr_u8 put_arr_u8 blk_drewN free_drewN put_drewN blk_raw free_raw
set_option maxRecDepth 100000 in
theorem frame34 (f : Nat → Value) : frameN 34 f = #[f 0, f 1, f 2, f 3, f 4, f 5, f 6, f 7, f 8, f 9, f 10, f 11, f 12, f 13, f 14, f 15, f 16, f 17, f 18, f 19, f 20, f 21, f 22, f 23, f 24, f 25, f 26, f 27, f 28, f 29, f 30, f 31, f 32, f 33] := by kernel_rfl
def rsI (W1 : World) (aP : Option Addr) (N cP b1 b2 : Nat) (f : Nat → Value) (W : World) : Prop :=
  f 0 = .slice aP N cP ∧ f 4 = .pointer (some ⟨b1, 0, none⟩) ∧ f 5 = .pointer (some ⟨b2, 0, none⟩) ∧ Hid (Ext W1 W) ∧ ∃ c : Nat, c ≤ 4 ∧ f 7 = .int .i64 (c : Nat)
set_option maxRecDepth 20000 in
set_option maxHeartbeats 4000000 in
theorem restricted_any (w : World) (aP : Option Addr) (N cP bP : Nat) (P : List PredInfo) (hP : At PredInfo.enc 3 w bP 0 aP N P) (hN : N ≤ 64) (hA4 : ∀ x ∈ P, x.arity ≤ 4) (r : GRule) (ba : Option Addr) (bn bc bL oL : Nat) (hsv : Sl.val r.body = .slice ba bn bc) (L : List Literal) (hL : At Literal.enc 10 w bL oL ba bn L) (hl8 : bn ≤ 8) (hLp : ∀ l ∈ L, 0 ≤ l.atom.pred ∧ l.atom.pred < N) (a : Atom) (ha : 0 ≤ a.pred ∧ a.pred < N) :
    Calls Try.prog 81 #[.slice aP N cP, .agg r.enc.toArray, .agg a.enc.toArray] w (BoolPost w) := by
  have HP : Hid (At PredInfo.enc 3 w bP 0 aP N P) := hP
  have HA : Hid (∀ x ∈ P, x.arity ≤ 4) := hA4
  have HL : Hid (At Literal.enc 10 w bL oL ba bn L) := hL
  have HLP : Hid (∀ l ∈ L, 0 ≤ l.atom.pred ∧ l.atom.pred < N) := hLp
  have HSV : Hid (Sl.val r.body = .slice ba bn bc) := hsv
  obtain ⟨q, hq⟩ : ∃ q : Nat, a.pred = (q : Int) := ⟨a.pred.toNat, by omega⟩
  have hqN : q < N := by omega
  clear hP hA4 hL hLp ha hsv
  go_enter Try.func81, Try.ntmps81
  go_upto_region 1 with fail
  refine wp_world (fun W => blk W w.heap.size = some r.enc ∧ blk W (w.heap.size + 1) = some a.enc ∧ Hid (Ext w W)) ⟨?_, ?_, ((Ext.refl w).alloc _).alloc _⟩ ?_
  · rw [blk_alloc, if_neg (by rw [World.size_alloc]; omega), blk_alloc, if_pos rfl]
  · rw [blk_alloc, if_pos (by rw [World.size_alloc])]
  rintro W1 ⟨hb1, hb2, HE1⟩
  obtain ⟨b1, hb⟩ : ∃ b, b = w.heap.size := ⟨_, rfl⟩
  rw [← hb] at hb1 hb2 ⊢
  clear hb
  obtain ⟨b2, hb⟩ : ∃ b, b = b1 + 1 := ⟨_, rfl⟩
  rw [← hb] at hb2 ⊢
  clear hb
  have HB1 : Hid (blk W1 b1 = some r.enc) := hb1
  have HB2 : Hid (blk W1 b2 = some a.enc) := hb2
  clear hb1 hb2
  obtain ⟨x, C, hx, rfl, hC, hCl, hs⟩ := HP.out.get hqN
  have HC : Hid (blk w bP = some C) := hC
  have hAr : nth C (q * 3) = some (.int .i64 x.arity) := by have := nth_in hs (PredInfo.arity_get x) (by omega); simpa using this
  have ha4 : x.arity ≤ 4 := HA.out x (List.mem_of_getElem? hx)
  have q0 : (0 : Int) ≤ (q : Int) := by omega
  have q1 : (q : Int) < (N : Int) := by omega
  have q2 : ((q : Int)).toNat = q := by omega
  have l2 : q * 3 < C.length := by omega
  have hpr := Atom.pred_get a
  rw [hq] at hpr
  clear hs hC hx hCl
  go_wp2_with fail
  refine wp_loop_f 34 (rsI W1 (some ⟨bP, 0, none⟩) N cP b1 b2) (fun f _ => 4 - (intOf (f 7)).toNat) rfl ?_ ?_
  · exact ⟨rfl, rfl, rfl, Ext.refl _, 0, by omega, rfl⟩
  intro F W hrel
  obtain ⟨f0, f4, f5, HE, c, hc, f7⟩ := hrel
  have H7 : Hid (F 7 = .int .i64 (c : Nat)) := f7
  rw [frame34, f0, f4, f5, f7]
  clear f0 f4 f5 f7
  have hb1 : blk W b1 = some r.enc := (HE.out.blk (blk_lt HB1.out)).trans HB1.out
  have hb2 : blk W b2 = some a.enc := (HE.out.blk (blk_lt HB2.out)).trans HB2.out
  have hCW : blk W bP = some C := ((HE1.out.trans HE.out).blk (blk_lt HC.out)).trans HC.out
  by_cases hca : (c : Int) < x.arity
  · have c0 : (0 : Int) ≤ (c : Int) := by omega
    have c1 : (c : Int) < 4 := by omega
    have c2 : ((c : Int)).toNat = c := by omega
    obtain ⟨⟨tv, tn⟩, ht⟩ := atom_arg a (c := c) (by omega)
    have t1 : nth a.enc (1 + c * 2) = some (.bool tv) := by have := nth_in ht (Term.var_get _) (by omega); simpa using this
    have t2 : nth a.enc (1 + c * 2 + 1) = some (.int .i64 tn) := nth_in ht (Term.n_get _) (by omega)
    have hal := Atom.length_enc a
    clear ht
    cases tv with
    | false =>
      repeat go_step
      go_quiet (fail)
      go_wp2_with fail
      refine ⟨rfl, rfl, ⟨rfl, rfl, rfl, HE.out.drewN _, c + 1, by omega, ?_⟩, ?_⟩
      · show Value.int .i64 _ = _
        go_num
      · show 4 - (intOf (Value.int .i64 _)).toNat < 4 - (intOf (F 7)).toNat
        rw [H7.out]
        simp [intOf]; omega
    | true =>
      repeat go_step
      refine wp_region_held_drew (S := fun W' => (blk W' b1 = some r.enc ∧ blk W' b2 = some a.enc) ∧ blk W' bP = some C) (by kernel_rfl) ⟨⟨hb1, hb2⟩, hCW⟩ (fun hHeld => ?_)
      refine wpAnyH_take (i := 0) (oi := ⟨_, _, _, _, _, _⟩) (v := ?_) rfl (by kernel_rfl) (by kernel_rfl) (by kernel_rfl) (fun _ _ _ h => h) (Or.inl ⟨by rfl, ?_⟩) (by assumption) ?_
      rotate_left 1
      · intro W' hSw
        obtain ⟨⟨hS1, hS2⟩, hS3⟩ := hSw
        go_simp
        try with_reducible rfl
      try simp only [Act.put, List.setIfInBounds_toArray, List.set_cons_zero, List.set_cons_succ]
      refine wpAnyH_take (i := 1) (oi := ⟨_, _, _, _, _, _⟩) (v := ?_) rfl (by kernel_rfl) (by kernel_rfl) (by kernel_rfl) (fun _ _ _ h => h) (Or.inl ⟨by rfl, ?_⟩) (by assumption) ?_
      rotate_left 1
      · intro W' hSw
        obtain ⟨⟨hS1, hS2⟩, hS3⟩ := hSw
        go_simp
        try with_reducible rfl
      try simp only [Act.put, List.setIfInBounds_toArray, List.set_cons_zero, List.set_cons_succ]
      refine wpAnyH_take (i := 2) (oi := ⟨_, _, _, _, _, _⟩) (v := ?_) rfl (by kernel_rfl) (by kernel_rfl) (by kernel_rfl) (fun _ _ _ h => h) (Or.inl ⟨by rfl, ?_⟩) (by assumption) ?_
      rotate_left 1
      · intro W' hSw
        obtain ⟨⟨hS1, hS2⟩, hS3⟩ := hSw
        go_simp
        try with_reducible rfl
      try simp only [Act.put, List.setIfInBounds_toArray, List.set_cons_zero, List.set_cons_succ]
      refine wpAnyH_take (i := 3) (oi := ⟨_, _, _, _, _, _⟩) (v := ?_) rfl (by kernel_rfl) (by kernel_rfl) (by kernel_rfl) (fun _ _ _ h => h) (Or.inl ⟨by rfl, ?_⟩) (by assumption) ?_
      rotate_left 1
      · intro W' hSw
        obtain ⟨⟨hS1, hS2⟩, hS3⟩ := hSw
        go_simp
        try with_reducible rfl
      try simp only [Act.put, List.setIfInBounds_toArray, List.set_cons_zero, List.set_cons_succ]
      refine wpAnyH_take (i := 4) (oi := ⟨_, _, _, _, _, _⟩) (v := ?_) rfl (by kernel_rfl) (by kernel_rfl) (by kernel_rfl) (fun _ _ _ h => h) (Or.inl ⟨by rfl, ?_⟩) (by assumption) ?_
      rotate_left 1
      · intro W' hSw
        obtain ⟨⟨hS1, hS2⟩, hS3⟩ := hSw
        go_simp
        try with_reducible rfl
      try simp only [Act.put, List.setIfInBounds_toArray, List.set_cons_zero, List.set_cons_succ]
      refine wpAnyH_take (i := 5) (oi := ⟨_, _, _, _, _, _⟩) (v := ?_) rfl (by kernel_rfl) (by kernel_rfl) (by kernel_rfl) (fun _ _ _ h => h) (Or.inl ⟨by rfl, ?_⟩) (by assumption) ?_
      rotate_left 1
      · intro W' hSw
        obtain ⟨⟨hS1, hS2⟩, hS3⟩ := hSw
        go_simp
        try with_reducible rfl
      try simp only [Act.put, List.setIfInBounds_toArray, List.set_cons_zero, List.set_cons_succ]
      refine wpAnyH_take (i := 6) (oi := ⟨_, _, _, _, _, _⟩) (v := ?_) rfl (by kernel_rfl) (by kernel_rfl) (by kernel_rfl) (fun _ _ _ h => h) (Or.inl ⟨by rfl, ?_⟩) (by assumption) ?_
      rotate_left 1
      · intro W' hSw
        obtain ⟨⟨hS1, hS2⟩, hS3⟩ := hSw
        go_simp
        try with_reducible rfl
      try simp only [Act.put, List.setIfInBounds_toArray, List.set_cons_zero, List.set_cons_succ]
      refine wpAnyH_take (i := 7) (oi := ⟨_, _, _, _, _, _⟩) (v := ?_) rfl (by kernel_rfl) (by kernel_rfl) (by kernel_rfl) (fun _ _ _ h => h) (Or.inl ⟨by rfl, ?_⟩) (by assumption) ?_
      rotate_left 1
      · intro W' hSw
        obtain ⟨⟨hS1, hS2⟩, hS3⟩ := hSw
        go_simp
        try with_reducible rfl
      try simp only [Act.put, List.setIfInBounds_toArray, List.set_cons_zero, List.set_cons_succ]
      refine wpAnyH_take (i := 8) (oi := ⟨_, _, _, _, _, _⟩) (v := ?_) rfl (by kernel_rfl) (by kernel_rfl) (by kernel_rfl) (fun _ _ _ h => h) (Or.inl ⟨by rfl, ?_⟩) (by assumption) ?_
      rotate_left 1
      · intro W' hSw
        obtain ⟨⟨hS1, hS2⟩, hS3⟩ := hSw
        go_simp
        try with_reducible rfl
      try simp only [Act.put, List.setIfInBounds_toArray, List.set_cons_zero, List.set_cons_succ]
      refine wpAnyH_take (i := 9) (oi := ⟨_, _, _, _, _, _⟩) (v := ?_) rfl (by kernel_rfl) (by kernel_rfl) (by kernel_rfl) (fun _ _ _ h => h) (Or.inl ⟨by rfl, ?_⟩) (by assumption) ?_
      rotate_left 1
      · intro W' hSw
        obtain ⟨⟨hS1, hS2⟩, hS3⟩ := hSw
        go_simp
        try with_reducible rfl
      try simp only [Act.put, List.setIfInBounds_toArray, List.set_cons_zero, List.set_cons_succ]
      refine wpAnyH_take (i := 10) (oi := ⟨_, _, _, _, _, _⟩) (v := ?_) rfl (by kernel_rfl) (by kernel_rfl) (by kernel_rfl) (fun _ _ _ h => h) (Or.inl ⟨by rfl, ?_⟩) (by assumption) ?_
      rotate_left 1
      · intro W' hSw
        obtain ⟨⟨hS1, hS2⟩, hS3⟩ := hSw
        go_simp
        try with_reducible rfl
      try simp only [Act.put, List.setIfInBounds_toArray, List.set_cons_zero, List.set_cons_succ]
      refine wpAnyH_take (i := 11) (oi := ⟨_, _, _, _, _, _⟩) (v := ?_) rfl (by kernel_rfl) (by kernel_rfl) (by kernel_rfl) (fun _ _ _ h => h) (Or.inl ⟨by rfl, ?_⟩) (by assumption) ?_
      rotate_left 1
      · intro W' hSw
        obtain ⟨⟨hS1, hS2⟩, hS3⟩ := hSw
        go_simp
        try with_reducible rfl
      try simp only [Act.put, List.setIfInBounds_toArray, List.set_cons_zero, List.set_cons_succ]
      refine wpAnyH_take (i := 12) (oi := ⟨_, _, _, _, _, _⟩) (v := ?_) rfl (by kernel_rfl) (by kernel_rfl) (by kernel_rfl) (fun _ _ _ h => h) (Or.inl ⟨by rfl, ?_⟩) (by assumption) ?_
      rotate_left 1
      · intro W' hSw
        obtain ⟨⟨hS1, hS2⟩, hS3⟩ := hSw
        go_simp
        try with_reducible rfl
      try simp only [Act.put, List.setIfInBounds_toArray, List.set_cons_zero, List.set_cons_succ]
      refine wpAnyH_ready (rs := [13]) (by kernel_rfl) (by simp) ?_
      refine AllReadyH.cons (o := ⟨_, _, _, _, _, _⟩) rfl (fun K hK => ?_) AllReadyH.nil
      go_simp
      refine (inPos_any W.drew (some ⟨bP, 0, none⟩) N cP bP P (HP.out.mono (fun _ => ((HE1.out.trans HE.out).drew.blk (blk_lt HC.out)))) hN HA.out r ba bn bc bL oL HSV.out L (HL.out.mono (fun h0 => by obtain ⟨_, CL, h1, _⟩ := HL.out.2 h0; exact (HE1.out.trans HE.out).drew.blk (blk_lt h1))) hl8 HLP.out tn).mono ?_
      rintro e W2 ⟨rb, rfl, he⟩
      have HE2 : Hid (Ext W1 W2) := HE.out.drew.trans he
      have g1 : blk W2 b1 = some r.enc := (he.blk (blk_lt hb1)).trans hb1
      have g2 : blk W2 b2 = some a.enc := (he.blk (blk_lt hb2)).trans hb2
      have g3 : blk W2 bP = some C := (he.blk (blk_lt hCW)).trans hCW
      clear he
      dsimp only
      refine hK.out _ _ ?_ (fun hHeld => ?_)
      · exact ⟨⟨g1, g2⟩, g3⟩
      clear hK K
      try simp only [Act.put, List.setIfInBounds_toArray, List.set_cons_zero, List.set_cons_succ]
      refine wpAnyH_take (i := 14) (oi := ⟨_, _, _, _, _, _⟩) (v := ?_) rfl (by kernel_rfl) (by kernel_rfl) (by kernel_rfl) (fun _ _ _ h => h) (Or.inl ⟨by rfl, ?_⟩) (by assumption) ?_
      rotate_left 1
      · intro W' hSw
        obtain ⟨⟨hS1, hS2⟩, hS3⟩ := hSw
        go_simp
        try with_reducible rfl
      try simp only [Act.put, List.setIfInBounds_toArray, List.set_cons_zero, List.set_cons_succ]
      refine wpAnyH_take (i := 15) (oi := ⟨_, _, _, _, _, _⟩) (v := ?_) rfl (by kernel_rfl) (by kernel_rfl) (by kernel_rfl) (fun _ _ _ h => h) (Or.inl ⟨by rfl, ?_⟩) (by assumption) ?_
      rotate_left 1
      · intro W' hSw
        obtain ⟨⟨hS1, hS2⟩, hS3⟩ := hSw
        go_simp
        try with_reducible rfl
      try simp only [Act.put, List.setIfInBounds_toArray, List.set_cons_zero, List.set_cons_succ]
      refine wpAnyH_done (by kernel_rfl) ?_ _
      cases rb with
      | false =>
        go_wp2_with fail
        go_ret
        exact ⟨false, rfl, HE1.out.trans HE2.out⟩
      | true =>
        go_wp2_with fail
        refine ⟨rfl, rfl, ⟨rfl, rfl, rfl, HE2, c + 1, by omega, ?_⟩, ?_⟩
        · show Value.int .i64 _ = _
          go_num
        · show 4 - (intOf (Value.int .i64 _)).toNat < 4 - (intOf (F 7)).toNat
          rw [H7.out]
          simp [intOf]; omega
  · go_wp2_with fail
    go_ret
    exact ⟨true, rfl, HE1.out.trans HE.out⟩
end Go.Proofs.Qxb6500788a
