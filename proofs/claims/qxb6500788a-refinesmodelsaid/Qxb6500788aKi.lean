import Derived.Test.Qxb6500788aKg
import Derived.StillTailTactics
import Derived.Deep.QuietTactic
import Derived.BigQuiet
import Derived.Deep.RegionHeld
import Derived.Deep.CutRange
import Derived.Laws.ResultCell
import Derived.Laws.Rows
import Derived.DeepKeys
import Derived.DataBytes
import Derived.Laws.StructEq
import Derived.Laws.AppendOwn
import Derived.Laws.MakeOwn
set_option linter.unusedSimpArgs false
set_option linter.unusedVariables false
namespace Go.Proofs.Qxb6500788a
open Go.RowKit Go.Blk
attribute [local go_sem ↓] execOp_load execOp_store execOp_alloc
attribute [local go_sem] Try.ld24 Try.st24 Try.ld25 Try.st25 Try.ld3 Try.st3 Try.ld30 Try.st30 Try.ld36 Try.st36 Try.ld4 Try.st4 Try.ld41 Try.st41 Try.ld50 Try.st50 Try.ld40 Try.st40 Try.ld42 Try.st42 Try.ld89 Try.st89 Try.ld91 Try.st91 Try.ld56 Try.st56 Try.ld97 Try.st97 Try.ld98 Try.st98 Try.ld101 Try.st101 Try.ld104 Try.st104 Try.ld57 Try.st57 Try.ld130 Try.st130 Try.ld2 Try.st2 Try.ld5 Try.st5 Try.ld9 Try.st9 Try.ld12 Try.st12 Try.ld21 Try.st21 Try.ld22 Try.st22 Try.ld29 Try.st29 Try.ld33 Try.st33 Try.ld59 Try.st59 Try.ld62 Try.st62 Try.ld69 Try.st69 Try.ld94 Try.st94 Try.ld96 Try.st96 Try.ld129 Try.st129 Try.ld158 Try.st158 Try.ld162 Try.st162 Try.ld47 Try.st47 Try.ld44 Try.st44 Try.ld137 Try.st137 Try.ld145 Try.st145 Try.ld43 Try.st43 Try.ld27 Try.st27 Try.ld38 Try.st38 Try.ld46 Try.st46 Try.ld49 Try.st49 Try.ld52 Try.st52 Try.ld54 Try.st54 Try.ld61 Try.st61 Try.ld80 Try.st80 Try.ld87 Try.st87 Try.ld93 Try.st93 Try.ld100 Try.st100 Try.ld103 Try.st103 Try.ld106 Try.st106 Try.ld109 Try.st109 Try.ld132 Try.st132 Try.ld147 Try.st147 Try.al47 Try.al44 Try.al137 Try.al145 Try.al43 Try.al27 Try.al38 Try.al46 Try.al49 Try.al52 Try.al54 Try.al61 Try.al80 Try.al87 Try.al93 Try.al100 Try.al103 Try.al106 Try.al109 Try.al132 Try.al147
attribute [local go_sem] GProgram.length_enc GProgram.ok_enc GProgram.all_get GProgram.all_set GProgram.preds_get GProgram.preds_set GProgram.rules_get GProgram.rules_set GProgram.strata_get GProgram.strata_set Answer.length_enc Answer.ok_enc Answer.all_get Answer.all_set Answer.code_get Answer.code_set Answer.n_get Answer.n_set Answer.rows_get Answer.rows_set Term.length_enc Term.ok_enc Term.all_get Term.all_set Term.var_get Term.var_set Term.n_get Term.n_set Atom.length_enc Atom.ok_enc Atom.all_get Atom.all_set Atom.pred_get Atom.pred_set Atom.args_get Atom.args_set GRule.length_enc GRule.ok_enc GRule.all_get GRule.all_set GRule.head_get GRule.head_set GRule.body_get GRule.body_set GRule.head_pred_get GRule.head_pred_set GRule.head_args_get GRule.head_args_set GOp.length_enc GOp.ok_enc GOp.all_get GOp.all_set GOp.kind_get GOp.kind_set GOp.pred_get GOp.pred_set GOp.t_get GOp.t_set GOp.n_get GOp.n_set GOp.base_get GOp.base_set GOp.rule_get GOp.rule_set GOp.rule_head_get GOp.rule_head_set GOp.rule_body_get GOp.rule_body_set GOp.rule_head_pred_get GOp.rule_head_pred_set GOp.rule_head_args_get GOp.rule_head_args_set PredInfo.length_enc PredInfo.ok_enc PredInfo.all_get PredInfo.all_set PredInfo.arity_get PredInfo.arity_set PredInfo.base_get PredInfo.base_set PredInfo.stratum_get PredInfo.stratum_set GStats.length_enc GStats.ok_enc GStats.all_get GStats.all_set GStats.rounds_get GStats.rounds_set GStats.fired_get GStats.fired_set GStats.emitted_get GStats.emitted_set GStats.fresh_get GStats.fresh_set Literal.length_enc Literal.ok_enc Literal.all_get Literal.all_set Literal.neg_get Literal.neg_set Literal.atom_get Literal.atom_set Literal.atom_pred_get Literal.atom_pred_set Literal.atom_args_get Literal.atom_args_set Engine.length_enc Engine.ok_enc Engine.all_get Engine.all_set Engine.prog_get Engine.prog_set Engine.st_get Engine.st_set Engine.levels_get Engine.levels_set Engine.running_get Engine.running_set Engine.stratum_get Engine.stratum_set Engine.round_get Engine.round_set Engine.saved_get Engine.saved_set Engine.stats_get Engine.stats_set Engine.prog_preds_get Engine.prog_preds_set Engine.prog_rules_get Engine.prog_rules_set Engine.prog_strata_get Engine.prog_strata_set Engine.stats_rounds_get Engine.stats_rounds_set Engine.stats_fired_get Engine.stats_fired_set Engine.stats_emitted_get Engine.stats_emitted_set Engine.stats_fresh_get Engine.stats_fresh_set Level.length_enc Level.ok_enc Level.all_get Level.all_set Level.heads_get Level.heads_set Level.jobs_get Level.jobs_set Plan.length_enc Plan.ok_enc Plan.all_get Plan.all_set Plan.rule_get Plan.rule_set Plan.delta_get Plan.delta_set Plan.src_get Plan.src_set Job.length_enc Job.ok_enc Job.all_get Job.all_set Job.full_get Job.full_set Job.deltas_get Job.deltas_set Job.full_rule_get Job.full_rule_set Job.full_delta_get Job.full_delta_set Job.full_src_get Job.full_src_set GState.length_enc GState.ok_enc GState.all_get GState.all_set GState.prog_get GState.prog_set GState.base_get GState.base_set GState.shown_get GState.shown_set GState.prog_preds_get GState.prog_preds_set GState.prog_rules_get GState.prog_rules_set GState.prog_strata_get GState.prog_strata_set Store.length_enc Store.ok_enc Store.all_get Store.all_set Store.arity_get Store.arity_set Store.rows_get Store.rows_set Env.length_enc Env.ok_enc Env.all_get Env.all_set Env.val_get Env.val_set Env.set_get Env.set_set
attribute [local go_sem] size_put size_ext blk_put free_put blk_alloc free_alloc blk_drew free_drew blk_ext free_ext lookOr_some putOr_some segAt_some cellAt_some storeIn_some put_put put_alloc_new length_arr ok_arr_u8 ok_arr_u32 ok_arr_u64 ok_arr_i64 ok_arr_sl cellsV_agg cellsV_int cellsV_bool cellsV_string cellsV_pointer cellsV_slice cellsV_sl ok_int ok_bool ok_string ok_pointer ok_slice ok_sl toList_arr seg_arr set_arr nth_splice nth_splice0 seg_splice seg_splice0 splice_splice splice_splice0 length_splice_if
attribute [local go_sem ↓] execOp_box
attribute [local go_sem] box_run nth_arr_u8 put_arr_u8 blk_drewN free_drewN put_drewN blk_raw free_raw
attribute [local go_sem ↓] execOp_build execOp_bslice
attribute [local go_sem] bld0 bld1 bld2 bld3 bslice36
attribute [local go_sem] Answer.ok_enc
set_option maxRecDepth 40000 in
set_option maxHeartbeats 4000000 in
theorem step_has (W0 : World) (O : Own) (W : World) (bm bb bs : Nat) (p : Pg) (T U : Nat → List Tup) (hM : MAt W0 O W bm bb bs p T U) (hok : PgOk p) (hT : RelI p T) (hU : RelI p U) (op : GOp) (hk : op.kind = 5) : Calls Try.prog 15 #[.pointer (some ⟨bm, 0, none⟩), .agg (GOp.enc op).toArray] W (StepPost W0 O W bm bb bs p T U op) := by
  obtain ⟨Q, hQ⟩ : ∃ Q, Q = StepPost W0 O W bm bb bs p T U op := ⟨_, rfl⟩
  rw [← hQ]
  have HQ := hid_of hQ
  have HOK := hid_of hok
  have HT := hid_of hT
  have HU := hid_of hU
  have h64 := hok.nP
  have HKD := hid_of hk
  have k0 : nth (GOp.enc op) 0 = some (.int .i64 op.kind) := GOp.kind_get op
  have k1 : nth (GOp.enc op) 1 = some (.int .i64 op.pred) := GOp.pred_get op
  have k2 : seg (GOp.enc op) 2 4 = arr i64v op.t := GOp.t_get op
  have kl : (GOp.enc op).length = 18 := GOp.length_enc op
  obtain ⟨OE, hOE⟩ : ∃ OE, OE = GOp.enc op := ⟨_, rfl⟩
  rw [← hOE] at k0 k1 k2 kl ⊢
  have l0 : 0 < OE.length := by omega
  have l1 : 1 < OE.length := by omega
  have l2 : 2 + 4 ≤ OE.length := by omega
  have ol18 : OE.length = 18 := kl
  rw [hk] at k0
  clear hOE hQ hk hok hT hU kl
  go_enter Try.func15, Try.ntmps15
  go_upto_region 1 with fail
  refine wp_world (fun V => blk V W.heap.size = some OE ∧ blk V (W.heap.size + 1) = some (Answer.enc (ans 0 0)) ∧ free V (W.heap.size + 1) = true ∧ W.Extends V ∧ V.heap.size = W.heap.size + 2) ⟨?_, ?_, ?_, ?_, ?_⟩ ?_
  · rw [blk_alloc, if_neg (by rw [World.size_alloc]; omega), blk_alloc, if_pos rfl]
  · rw [blk_alloc, if_pos (by rw [World.size_alloc])]; try rfl
  · rw [free_alloc, if_pos (by rw [World.size_alloc])]
  · exact extends_alloc (extends_alloc (ext_Ext (Ext.refl _)) _) _
  · rw [World.size_alloc, World.size_alloc]
  rintro W1 ⟨hb3, hb4, hf4, hx1, hsz⟩
  try simp only [World.size_alloc]
  obtain ⟨O1, hO1⟩ : ∃ O1, O1 = lab O W.heap.size (.a 6 0) := ⟨_, rfl⟩
  have hM1 : MAt W0 O1 W1 bm bb bs p T U := by
    rw [hO1]
    exact hM.fr (L := fun _ => False) ⟨hx1.os, hx1.tape, hx1.output, hx1.size, fun k hk => lab_lt hk, fun k hk _ => hx1.block k hk⟩ (fun _ _ h => h) (fun h => h)
  have HF : Hid (∀ (V : World) (O' : Own) (T' U' : Nat → List Tup) (A : Answer) (ts : List Tup), Fr isM O1 W1 O' V → MAt W0 O' V bm bb bs p T' U' → RwS O' V A.rows.a A.rows.len ts → MR p T U op T' U' A.code A.n ts → Q (.returned (.agg A.enc.toArray)) (put V (W.heap.size + 1) A.enc)) := by
    intro V O' T' U' A ts h1 h2 h3 h4
    rw [HQ.out]
    exact step_fin hx1 hO1 (by omega) (by omega) h1 h2 h3 h4
  obtain ⟨b4, e4⟩ : ∃ b4, b4 = W.heap.size + 1 := ⟨_, rfl⟩
  rw [← e4] at hb4 hf4 HF ⊢
  obtain ⟨b3, e3⟩ : ∃ b3, b3 = W.heap.size := ⟨_, rfl⟩
  rw [← e3] at hb3 ⊢
  have n34 : ¬ b3 = b4 := by omega
  have hl4 : O1 b4 = .a 6 0 := by rw [hO1, e4]; exact lab_ge (by omega)
  have hl3 : O1 b3 = .a 6 0 := by rw [hO1, e3]; exact lab_ge (Nat.le_refl _)
  have HL4 := hid_of hl4
  have HL3 := hid_of hl3
  have HM1 := hid_of hM1
  have HSZ : Hid (b3 < W1.heap.size ∧ b4 < W1.heap.size) := by
    show _ ∧ _
    omega
  have HX1 := hid_of hx1
  have al4 := Answer.length_enc (ans 0 0)
  clear e3 e4 hO1 hx1 hM1 hM hsz hl4 hl3
  have hck := checkM_any W1 bm p HM1.out.pgv HOK.out op.pred op.t
  have HCK := hid_of hck
  obtain ⟨cv, hcv⟩ : ∃ cv, cv = ckT p op.pred op.t := ⟨_, rfl⟩
  rw [← hcv] at HCK
  have HCV := hid_of hcv
  clear hck hcv
  go_wp2_with fail
  refine HCK.out.mono ?_
  rintro e V2 ⟨rfl, hx2⟩
  have HX2 := hid_of hx2
  have hb3V : blk V2 b3 = some OE := (hx2.blk HSZ.out.1).trans hb3
  have hb4V : blk V2 b4 = some (Answer.enc (ans 0 0)) := (hx2.blk HSZ.out.2).trans hb4
  have hf4V : free V2 b4 = true := (free_of_heap (hx2.block b4 HSZ.out.2)).trans hf4
  clear HCK hx2
  dsimp only
  by_cases hc0 : cv = 0
  · subst hc0
    have hc0 : ckT p op.pred op.t = 0 := HCV.out.symm
    have hin := ckT_in hc0
    obtain ⟨q, hq⟩ : ∃ q : Nat, op.pred = (q : Int) := ⟨op.pred.toNat, by have := hin.1; omega⟩
    have hqn : op.pred.toNat = q := by rw [hq, Int.toNat_natCast]
    have hqP : q < p.P.length := by have := hin.2; omega
    have HC0 := hid_of hc0
    have HQN := hid_of hqn
    rw [hq] at k1
    have hdw : V2.Extends V2.drew := extends_drew (ext_Ext (Ext.refl _))
    have hro := rowsM_any ((HM1.out.ext HX2.out).ext hdw) h64 q hqP
    have HRO := hid_of hro
    have hlr : (rowsM p T U q).length ≤ 4294967296 := by
      unfold rowsM
      split
      · exact outok_len (HT.out q hqP)
      · exact outok_len (HU.out q hqP)
    clear HCV hc0 hin hqn hq hb3 hb4 hf4 hdw hro
    go_upto_region 44 with fail
    refine wp_region_held_drew (S := fun W' => blk W' b3 = some OE) (by kernel_rfl) hb3V (fun hHeld => ?_)
    refine wpAnyH_take (i := 0) (oi := ⟨_, _, _, _, _, _⟩) (v := ?_) rfl (by kernel_rfl) (by kernel_rfl) (by kernel_rfl) (fun _ _ _ h => h) (Or.inl ⟨by rfl, ?_⟩) (by assumption) ?_
    rotate_left 1
    · intro W' hSw
      go_simp
      try with_reducible rfl
    try simp only [Act.put, List.setIfInBounds_toArray, List.set_cons_zero, List.set_cons_succ]
    refine wpAnyH_take (i := 1) (oi := ⟨_, _, _, _, _, _⟩) (v := ?_) rfl (by kernel_rfl) (by kernel_rfl) (by kernel_rfl) (fun _ _ _ h => h) (Or.inl ⟨by rfl, ?_⟩) (by assumption) ?_
    rotate_left 1
    · intro W' hSw
      go_simp
      try with_reducible rfl
    try simp only [Act.put, List.setIfInBounds_toArray, List.set_cons_zero, List.set_cons_succ]
    refine wpAnyH_take (i := 2) (oi := ⟨_, _, _, _, _, _⟩) (v := ?_) rfl (by kernel_rfl) (by kernel_rfl) (by kernel_rfl) (fun _ _ _ h => h) (Or.inl ⟨by rfl, ?_⟩) (by assumption) ?_
    rotate_left 1
    · intro W' hSw
      go_simp
      try with_reducible rfl
    try simp only [Act.put, List.setIfInBounds_toArray, List.set_cons_zero, List.set_cons_succ]
    refine wpAnyH_take (i := 4) (oi := ⟨_, _, _, _, _, _⟩) (v := ?_) rfl (by kernel_rfl) (by kernel_rfl) (by kernel_rfl) (fun _ _ _ h => h) (Or.inl ⟨by rfl, ?_⟩) (by assumption) ?_
    rotate_left 1
    · intro W' hSw
      go_simp
      try with_reducible rfl
    try simp only [Act.put, List.setIfInBounds_toArray, List.set_cons_zero, List.set_cons_succ]
    refine wpAnyH_take (i := 5) (oi := ⟨_, _, _, _, _, _⟩) (v := ?_) rfl (by kernel_rfl) (by kernel_rfl) (by kernel_rfl) (fun _ _ _ h => h) (Or.inl ⟨by rfl, ?_⟩) (by assumption) ?_
    rotate_left 1
    · intro W' hSw
      go_simp
      try with_reducible rfl
    try simp only [Act.put, List.setIfInBounds_toArray, List.set_cons_zero, List.set_cons_succ]
    refine wpAnyH_ready (rs := [3]) (by kernel_rfl) (by simp) ?_
    refine AllReadyH.cons (o := ⟨_, _, _, _, _, _⟩) rfl (fun K' hK => ?_) AllReadyH.nil
    go_simp
    refine HRO.out.mono ?_
    rintro en V3 ⟨ra, rm, rc, rfl, e9, hrw⟩
    replace e9 := e9.symm
    subst e9
    have hme := memberM_any V2.drew ra rm rc (rowsM p T U q) hrw.1 (by rw [← hrw.1.1]; omega) op.t
    have HME := hid_of hme
    clear HRO hrw hme
    dsimp only
    refine hK.out _ _ hb3V (fun hHeld => ?_)
    clear hK K'
    try simp only [Act.put, List.setIfInBounds_toArray, List.set_cons_zero, List.set_cons_succ]
    refine wpAnyH_ready (rs := [6]) (by kernel_rfl) (by simp) ?_
    refine AllReadyH.cons (o := ⟨_, _, _, _, _, _⟩) rfl (fun K' hK => ?_) AllReadyH.nil
    go_simp
    refine HME.out.mono ?_
    rintro en V4 ⟨rfl, hx4⟩
    have hxx : V2.Extends V4 := (extends_drew (ext_Ext (Ext.refl _))).trans hx4
    have HX4 : Hid (W1.Extends V4) := HX2.out.trans hxx
    have w2 : blk V4 b3 = some OE := (hxx.blk (blk_lt hb3V)).trans hb3V
    have w4 : blk V4 b4 = some (Answer.enc (ans 0 0)) := (hxx.blk (blk_lt hb4V)).trans hb4V
    have w5 : free V4 b4 = true := (free_of_heap (hxx.block b4 (blk_lt hb4V))).trans hf4V
    clear HME hx4 hxx hb4V hf4V
    dsimp only
    refine hK.out _ _ w2 (fun hHeld => ?_)
    clear hK K'
    try simp only [Act.put, List.setIfInBounds_toArray, List.set_cons_zero, List.set_cons_succ]
    refine wpAnyH_done (by kernel_rfl) ?_ _
    clear hHeld
    by_cases hm : op.t ∈ rowsM p T U q
    · have hdm : decide (op.t ∈ rowsM p T U q) = true := decide_eq_true hm
      have HP : Hid (Q (.returned (.agg (Answer.enc (ans 0 1)).toArray)) (put V4 b4 (Answer.enc (ans 0 1)))) := HF.out V4 O1 T U (ans 0 1) [] (Fr.of_extends HX4.out) (HM1.out.ext HX4.out) (RwS.nil _ _) (.has1 HKD.out HC0.out (by rw [HQN.out]; exact hm))
      have hb4x := w4
      clear HF
      try rw [hdm]
      go_wp2_with fail
      refine ret_cell (C := Answer.enc (ans 0 1)) rfl rfl ?_ (by kernel_rfl) (by rw [Answer.length_enc]; kernel_rfl) rfl HP.out
      first | (rw [blk_put, if_pos rfl, hb4x]; rfl) | (simp only [blk_put, if_true, hb4x, Option.map_some]; try rfl)
    · have hdm : decide (op.t ∈ rowsM p T U q) = false := decide_eq_false hm
      have HP : Hid (Q (.returned (.agg (Answer.enc (ans 0 0)).toArray)) (put V4 b4 (Answer.enc (ans 0 0)))) := HF.out V4 O1 T U (ans 0 0) [] (Fr.of_extends HX4.out) (HM1.out.ext HX4.out) (RwS.nil _ _) (.has0 HKD.out HC0.out (by rw [HQN.out]; exact hm))
      have hb4x := w4
      clear HF
      try rw [hdm]
      go_wp2_with fail
      refine ret_cell (C := Answer.enc (ans 0 0)) rfl rfl ?_ (by kernel_rfl) (by rw [Answer.length_enc]; kernel_rfl) rfl HP.out
      first | (rw [blk_put, if_pos rfl, hb4x]; rfl) | (simp only [blk_put, if_true, hb4x, Option.map_some]; try rfl)
  · have hck2 := checkM_any V2 bm p (HM1.out.ext HX2.out).pgv HOK.out op.pred op.t
    rw [← HCV.out] at hck2
    have HCK2 := hid_of hck2
    clear hck2
    go_wp2_with fail
    refine HCK2.out.mono ?_
    rintro e V3 ⟨rfl, hx3⟩
    have hxx := HX2.out.trans hx3
    have HP : Hid (Q (.returned (.agg (Answer.enc (ans cv 0)).toArray)) (put V3 b4 (Answer.enc (ans cv 0)))) := HF.out V3 O1 T U (ans cv 0) [] (Fr.of_extends hxx) (HM1.out.ext hxx) (RwS.nil _ _) (by
      have h := MR.hasb (p := p) (T := T) (U := U) HKD.out (by rw [← HCV.out]; exact hc0)
      rw [← HCV.out] at h; exact h)
    have hb4x : blk V3 b4 = some (Answer.enc (ans 0 0)) := (hx3.blk (blk_lt hb4V)).trans hb4V
    have hf4x : free V3 b4 = true := (free_of_heap (hx3.block b4 (blk_lt hb4V))).trans hf4V
    clear HF hxx HCK2 hx3 HCV
    dsimp only
    go_wp2_with fail
    refine ret_cell (C := Answer.enc (ans cv 0)) rfl rfl ?_ (by kernel_rfl) (by rw [Answer.length_enc]; kernel_rfl) rfl HP.out
    first | (rw [blk_put, if_pos rfl, hb4x]; rfl) | (simp only [blk_put, if_true, hb4x, Option.map_some]; try rfl)
set_option maxRecDepth 40000 in
set_option maxHeartbeats 4000000 in
theorem step_list (W0 : World) (O : Own) (W : World) (bm bb bs : Nat) (p : Pg) (T U : Nat → List Tup) (hM : MAt W0 O W bm bb bs p T U) (hok : PgOk p) (hT : RelI p T) (hU : RelI p U) (op : GOp) (hk : op.kind = 6) : Calls Try.prog 15 #[.pointer (some ⟨bm, 0, none⟩), .agg (GOp.enc op).toArray] W (StepPost W0 O W bm bb bs p T U op) := by
  obtain ⟨Q, hQ⟩ : ∃ Q, Q = StepPost W0 O W bm bb bs p T U op := ⟨_, rfl⟩
  rw [← hQ]
  have HQ := hid_of hQ
  have HOK := hid_of hok
  have HT := hid_of hT
  have HU := hid_of hU
  have h64 := hok.nP
  have HKD := hid_of hk
  have k0 : nth (GOp.enc op) 0 = some (.int .i64 op.kind) := GOp.kind_get op
  have k1 : nth (GOp.enc op) 1 = some (.int .i64 op.pred) := GOp.pred_get op
  have k2 : seg (GOp.enc op) 2 4 = arr i64v op.t := GOp.t_get op
  have kl : (GOp.enc op).length = 18 := GOp.length_enc op
  obtain ⟨OE, hOE⟩ : ∃ OE, OE = GOp.enc op := ⟨_, rfl⟩
  rw [← hOE] at k0 k1 k2 kl ⊢
  have l0 : 0 < OE.length := by omega
  have l1 : 1 < OE.length := by omega
  have l2 : 2 + 4 ≤ OE.length := by omega
  have ol18 : OE.length = 18 := kl
  rw [hk] at k0
  clear hOE hQ hk hok hT hU kl
  go_enter Try.func15, Try.ntmps15
  go_upto_region 1 with fail
  refine wp_world (fun V => blk V W.heap.size = some OE ∧ blk V (W.heap.size + 1) = some (Answer.enc (ans 0 0)) ∧ free V (W.heap.size + 1) = true ∧ W.Extends V ∧ V.heap.size = W.heap.size + 2) ⟨?_, ?_, ?_, ?_, ?_⟩ ?_
  · rw [blk_alloc, if_neg (by rw [World.size_alloc]; omega), blk_alloc, if_pos rfl]
  · rw [blk_alloc, if_pos (by rw [World.size_alloc])]; try rfl
  · rw [free_alloc, if_pos (by rw [World.size_alloc])]
  · exact extends_alloc (extends_alloc (ext_Ext (Ext.refl _)) _) _
  · rw [World.size_alloc, World.size_alloc]
  rintro W1 ⟨hb3, hb4, hf4, hx1, hsz⟩
  try simp only [World.size_alloc]
  obtain ⟨O1, hO1⟩ : ∃ O1, O1 = lab O W.heap.size (.a 6 0) := ⟨_, rfl⟩
  have hM1 : MAt W0 O1 W1 bm bb bs p T U := by
    rw [hO1]
    exact hM.fr (L := fun _ => False) ⟨hx1.os, hx1.tape, hx1.output, hx1.size, fun k hk => lab_lt hk, fun k hk _ => hx1.block k hk⟩ (fun _ _ h => h) (fun h => h)
  have HF : Hid (∀ (V : World) (O' : Own) (T' U' : Nat → List Tup) (A : Answer) (ts : List Tup), Fr isM O1 W1 O' V → MAt W0 O' V bm bb bs p T' U' → RwS O' V A.rows.a A.rows.len ts → MR p T U op T' U' A.code A.n ts → Q (.returned (.agg A.enc.toArray)) (put V (W.heap.size + 1) A.enc)) := by
    intro V O' T' U' A ts h1 h2 h3 h4
    rw [HQ.out]
    exact step_fin hx1 hO1 (by omega) (by omega) h1 h2 h3 h4
  obtain ⟨b4, e4⟩ : ∃ b4, b4 = W.heap.size + 1 := ⟨_, rfl⟩
  rw [← e4] at hb4 hf4 HF ⊢
  obtain ⟨b3, e3⟩ : ∃ b3, b3 = W.heap.size := ⟨_, rfl⟩
  rw [← e3] at hb3 ⊢
  have n34 : ¬ b3 = b4 := by omega
  have hl4 : O1 b4 = .a 6 0 := by rw [hO1, e4]; exact lab_ge (by omega)
  have hl3 : O1 b3 = .a 6 0 := by rw [hO1, e3]; exact lab_ge (Nat.le_refl _)
  have HL4 := hid_of hl4
  have HL3 := hid_of hl3
  have HM1 := hid_of hM1
  have HSZ : Hid (b3 < W1.heap.size ∧ b4 < W1.heap.size) := by
    show _ ∧ _
    omega
  have HX1 := hid_of hx1
  have al4 := Answer.length_enc (ans 0 0)
  clear e3 e4 hO1 hx1 hM1 hM hsz hl4 hl3
  obtain ⟨aP0, cP0, Cm, e1, e2, e3, -, -⟩ := HM1.out.cell
  have x0 : 0 < Cm.length := by omega
  obtain ⟨pv, hpv⟩ : ∃ pv, pv = op.pred := ⟨_, rfl⟩
  rw [← hpv] at k1
  have HPV := hid_of hpv
  have hxd : W1.Extends W1.drew := extends_drew (ext_Ext (Ext.refl _))
  clear hpv
  by_cases hlt : pv < 0
  · have hd1 : decide (pv < 0) = true := decide_eq_true hlt
    have HP : Hid (Q (.returned (.agg (Answer.enc (ans 5 0)).toArray)) (put W1.drew b4 (Answer.enc (ans 5 0)))) := HF.out W1.drew O1 T U (ans 5 0) [] (Fr.of_extends hxd) (HM1.out.ext hxd) (RwS.nil _ _) (.listb HKD.out (fun h => by have := h.1; rw [← HPV.out] at this; omega))
    have hb4x : blk W1.drew b4 = some (Answer.enc (ans 0 0)) := hb4
    clear HF hxd
    go_upto_region 48 with fail
    refine wp_region_held_drew (S := fun W' => blk W' b3 = some OE ∧ blk W' bm = some Cm) (by kernel_rfl) ⟨hb3, e1⟩ (fun hHeld => ?_)
    refine wpAnyH_take (i := 0) (oi := ⟨_, _, _, _, _, _⟩) (v := ?_) rfl (by kernel_rfl) (by kernel_rfl) (by kernel_rfl) (fun _ _ _ h => h) (Or.inl ⟨by rfl, ?_⟩) (by assumption) ?_
    rotate_left 1
    · intro W' hSw
      obtain ⟨hS1, hS2⟩ := hSw
      go_simp
      try with_reducible rfl
    try simp only [Act.put, List.setIfInBounds_toArray, List.set_cons_zero, List.set_cons_succ]
    refine wpAnyH_take (i := 1) (oi := ⟨_, _, _, _, _, _⟩) (v := ?_) rfl (by kernel_rfl) (by kernel_rfl) (by kernel_rfl) (fun _ _ _ h => h) (Or.inl ⟨by rfl, ?_⟩) (by assumption) ?_
    rotate_left 1
    · intro W' hSw
      obtain ⟨hS1, hS2⟩ := hSw
      go_simp
      try with_reducible rfl
    try simp only [Act.put, List.setIfInBounds_toArray, List.set_cons_zero, List.set_cons_succ]
    refine wpAnyH_take (i := 2) (oi := ⟨_, _, _, _, _, _⟩) (v := ?_) rfl (by kernel_rfl) (by kernel_rfl) (by kernel_rfl) (fun _ _ _ h => h) (Or.inl ⟨by rfl, ?_⟩) (by assumption) ?_
    rotate_left 1
    · intro W' hSw
      obtain ⟨hS1, hS2⟩ := hSw
      go_simp
      try with_reducible rfl
    try simp only [Act.put, List.setIfInBounds_toArray, List.set_cons_zero, List.set_cons_succ]
    refine wpAnyH_take (i := 3) (oi := ⟨_, _, _, _, _, _⟩) (v := ?_) rfl (by kernel_rfl) (by kernel_rfl) (by kernel_rfl) (fun _ _ _ h => h) (Or.inl ⟨by rfl, ?_⟩) (by assumption) ?_
    rotate_left 1
    · intro W' hSw
      obtain ⟨hS1, hS2⟩ := hSw
      go_simp
      try with_reducible rfl
    try simp only [Act.put, List.setIfInBounds_toArray, List.set_cons_zero, List.set_cons_succ]
    refine wpAnyH_take (i := 4) (oi := ⟨_, _, _, _, _, _⟩) (v := undef) rfl (by kernel_rfl) (by kernel_rfl) (by kernel_rfl) (fun _ _ _ h => h) (Or.inr ⟨by rfl, rfl⟩) (by assumption) ?_
    try simp only [Act.put, List.setIfInBounds_toArray, List.set_cons_zero, List.set_cons_succ]
    refine wpAnyH_take (i := 5) (oi := ⟨_, _, _, _, _, _⟩) (v := undef) rfl (by kernel_rfl) (by kernel_rfl) (by kernel_rfl) (fun _ _ _ h => h) (Or.inr ⟨by rfl, rfl⟩) (by assumption) ?_
    try simp only [Act.put, List.setIfInBounds_toArray, List.set_cons_zero, List.set_cons_succ]
    refine wpAnyH_take (i := 6) (oi := ⟨_, _, _, _, _, _⟩) (v := undef) rfl (by kernel_rfl) (by kernel_rfl) (by kernel_rfl) (fun _ _ _ h => h) (Or.inr ⟨by rfl, rfl⟩) (by assumption) ?_
    try simp only [Act.put, List.setIfInBounds_toArray, List.set_cons_zero, List.set_cons_succ]
    refine wpAnyH_take (i := 7) (oi := ⟨_, _, _, _, _, _⟩) (v := undef) rfl (by kernel_rfl) (by kernel_rfl) (by kernel_rfl) (fun _ _ _ h => h) (Or.inr ⟨by rfl, rfl⟩) (by assumption) ?_
    try simp only [Act.put, List.setIfInBounds_toArray, List.set_cons_zero, List.set_cons_succ]
    refine wpAnyH_take (i := 8) (oi := ⟨_, _, _, _, _, _⟩) (v := undef) rfl (by kernel_rfl) (by kernel_rfl) (by kernel_rfl) (fun _ _ _ h => h) (Or.inr ⟨by rfl, rfl⟩) (by assumption) ?_
    try simp only [Act.put, List.setIfInBounds_toArray, List.set_cons_zero, List.set_cons_succ]
    refine wpAnyH_take (i := 9) (oi := ⟨_, _, _, _, _, _⟩) (v := undef) rfl (by kernel_rfl) (by kernel_rfl) (by kernel_rfl) (fun _ _ _ h => h) (Or.inr ⟨by rfl, rfl⟩) (by assumption) ?_
    try simp only [Act.put, List.setIfInBounds_toArray, List.set_cons_zero, List.set_cons_succ]
    refine wpAnyH_take (i := 10) (oi := ⟨_, _, _, _, _, _⟩) (v := undef) rfl (by kernel_rfl) (by kernel_rfl) (by kernel_rfl) (fun _ _ _ h => h) (Or.inr ⟨by rfl, rfl⟩) (by assumption) ?_
    try simp only [Act.put, List.setIfInBounds_toArray, List.set_cons_zero, List.set_cons_succ]
    refine wpAnyH_take (i := 11) (oi := ⟨_, _, _, _, _, _⟩) (v := undef) rfl (by kernel_rfl) (by kernel_rfl) (by kernel_rfl) (fun _ _ _ h => h) (Or.inr ⟨by rfl, rfl⟩) (by assumption) ?_
    try simp only [Act.put, List.setIfInBounds_toArray, List.set_cons_zero, List.set_cons_succ]
    refine wpAnyH_take (i := 12) (oi := ⟨_, _, _, _, _, _⟩) (v := undef) rfl (by kernel_rfl) (by kernel_rfl) (by kernel_rfl) (fun _ _ _ h => h) (Or.inr ⟨by rfl, rfl⟩) (by assumption) ?_
    try simp only [Act.put, List.setIfInBounds_toArray, List.set_cons_zero, List.set_cons_succ]
    refine wpAnyH_take (i := 13) (oi := ⟨_, _, _, _, _, _⟩) (v := ?_) rfl (by kernel_rfl) (by kernel_rfl) (by kernel_rfl) (fun _ _ _ h => h) (Or.inl ⟨by rfl, ?_⟩) (by assumption) ?_
    rotate_left 1
    · intro W' hSw
      obtain ⟨hS1, hS2⟩ := hSw
      go_simp
      try with_reducible rfl
    try simp only [Act.put, List.setIfInBounds_toArray, List.set_cons_zero, List.set_cons_succ]
    refine wpAnyH_done (by kernel_rfl) ?_ _
    clear hHeld
    go_wp2_with fail
    refine ret_cell (C := Answer.enc (ans 5 0)) rfl rfl ?_ (by kernel_rfl) (by rw [Answer.length_enc]; kernel_rfl) rfl HP.out
    first | (rw [blk_put, if_pos rfl, hb4x]; rfl) | (simp only [blk_put, if_true, hb4x, Option.map_some]; try rfl)
  have hd1 : decide (pv < 0) = false := decide_eq_false hlt
  by_cases hge : (p.P.length : Int) ≤ pv
  · have hd2 : decide ((p.P.length : Int) ≤ pv) = true := decide_eq_true hge
    have HP : Hid (Q (.returned (.agg (Answer.enc (ans 5 0)).toArray)) (put W1.drew b4 (Answer.enc (ans 5 0)))) := HF.out W1.drew O1 T U (ans 5 0) [] (Fr.of_extends hxd) (HM1.out.ext hxd) (RwS.nil _ _) (.listb HKD.out (fun h => by have := h.2; rw [← HPV.out] at this; omega))
    have hb4x : blk W1.drew b4 = some (Answer.enc (ans 0 0)) := hb4
    clear HF hxd
    go_upto_region 48 with fail
    refine wp_region_held_drew (S := fun W' => blk W' b3 = some OE ∧ blk W' bm = some Cm) (by kernel_rfl) ⟨hb3, e1⟩ (fun hHeld => ?_)
    refine wpAnyH_take (i := 0) (oi := ⟨_, _, _, _, _, _⟩) (v := ?_) rfl (by kernel_rfl) (by kernel_rfl) (by kernel_rfl) (fun _ _ _ h => h) (Or.inl ⟨by rfl, ?_⟩) (by assumption) ?_
    rotate_left 1
    · intro W' hSw
      obtain ⟨hS1, hS2⟩ := hSw
      go_simp
      try with_reducible rfl
    try simp only [Act.put, List.setIfInBounds_toArray, List.set_cons_zero, List.set_cons_succ]
    refine wpAnyH_take (i := 1) (oi := ⟨_, _, _, _, _, _⟩) (v := ?_) rfl (by kernel_rfl) (by kernel_rfl) (by kernel_rfl) (fun _ _ _ h => h) (Or.inl ⟨by rfl, ?_⟩) (by assumption) ?_
    rotate_left 1
    · intro W' hSw
      obtain ⟨hS1, hS2⟩ := hSw
      go_simp
      try with_reducible rfl
    try simp only [Act.put, List.setIfInBounds_toArray, List.set_cons_zero, List.set_cons_succ]
    refine wpAnyH_take (i := 2) (oi := ⟨_, _, _, _, _, _⟩) (v := ?_) rfl (by kernel_rfl) (by kernel_rfl) (by kernel_rfl) (fun _ _ _ h => h) (Or.inl ⟨by rfl, ?_⟩) (by assumption) ?_
    rotate_left 1
    · intro W' hSw
      obtain ⟨hS1, hS2⟩ := hSw
      go_simp
      try with_reducible rfl
    try simp only [Act.put, List.setIfInBounds_toArray, List.set_cons_zero, List.set_cons_succ]
    refine wpAnyH_take (i := 3) (oi := ⟨_, _, _, _, _, _⟩) (v := ?_) rfl (by kernel_rfl) (by kernel_rfl) (by kernel_rfl) (fun _ _ _ h => h) (Or.inl ⟨by rfl, ?_⟩) (by assumption) ?_
    rotate_left 1
    · intro W' hSw
      obtain ⟨hS1, hS2⟩ := hSw
      go_simp
      try with_reducible rfl
    try simp only [Act.put, List.setIfInBounds_toArray, List.set_cons_zero, List.set_cons_succ]
    refine wpAnyH_take (i := 4) (oi := ⟨_, _, _, _, _, _⟩) (v := ?_) rfl (by kernel_rfl) (by kernel_rfl) (by kernel_rfl) (fun _ _ _ h => h) (Or.inl ⟨by rfl, ?_⟩) (by assumption) ?_
    rotate_left 1
    · intro W' hSw
      obtain ⟨hS1, hS2⟩ := hSw
      go_simp
      try with_reducible rfl
    try simp only [Act.put, List.setIfInBounds_toArray, List.set_cons_zero, List.set_cons_succ]
    refine wpAnyH_take (i := 5) (oi := ⟨_, _, _, _, _, _⟩) (v := ?_) rfl (by kernel_rfl) (by kernel_rfl) (by kernel_rfl) (fun _ _ _ h => h) (Or.inl ⟨by rfl, ?_⟩) (by assumption) ?_
    rotate_left 1
    · intro W' hSw
      obtain ⟨hS1, hS2⟩ := hSw
      go_simp
      try with_reducible rfl
    try simp only [Act.put, List.setIfInBounds_toArray, List.set_cons_zero, List.set_cons_succ]
    refine wpAnyH_take (i := 6) (oi := ⟨_, _, _, _, _, _⟩) (v := ?_) rfl (by kernel_rfl) (by kernel_rfl) (by kernel_rfl) (fun _ _ _ h => h) (Or.inl ⟨by rfl, ?_⟩) (by assumption) ?_
    rotate_left 1
    · intro W' hSw
      obtain ⟨hS1, hS2⟩ := hSw
      go_simp
      try with_reducible rfl
    try simp only [Act.put, List.setIfInBounds_toArray, List.set_cons_zero, List.set_cons_succ]
    refine wpAnyH_take (i := 7) (oi := ⟨_, _, _, _, _, _⟩) (v := ?_) rfl (by kernel_rfl) (by kernel_rfl) (by kernel_rfl) (fun _ _ _ h => h) (Or.inl ⟨by rfl, ?_⟩) (by assumption) ?_
    rotate_left 1
    · intro W' hSw
      obtain ⟨hS1, hS2⟩ := hSw
      go_simp
      try with_reducible rfl
    try simp only [Act.put, List.setIfInBounds_toArray, List.set_cons_zero, List.set_cons_succ]
    refine wpAnyH_take (i := 8) (oi := ⟨_, _, _, _, _, _⟩) (v := ?_) rfl (by kernel_rfl) (by kernel_rfl) (by kernel_rfl) (fun _ _ _ h => h) (Or.inl ⟨by rfl, ?_⟩) (by assumption) ?_
    rotate_left 1
    · intro W' hSw
      obtain ⟨hS1, hS2⟩ := hSw
      go_simp
      try with_reducible rfl
    try simp only [Act.put, List.setIfInBounds_toArray, List.set_cons_zero, List.set_cons_succ]
    refine wpAnyH_take (i := 9) (oi := ⟨_, _, _, _, _, _⟩) (v := ?_) rfl (by kernel_rfl) (by kernel_rfl) (by kernel_rfl) (fun _ _ _ h => h) (Or.inl ⟨by rfl, ?_⟩) (by assumption) ?_
    rotate_left 1
    · intro W' hSw
      obtain ⟨hS1, hS2⟩ := hSw
      go_simp
      try with_reducible rfl
    try simp only [Act.put, List.setIfInBounds_toArray, List.set_cons_zero, List.set_cons_succ]
    refine wpAnyH_take (i := 10) (oi := ⟨_, _, _, _, _, _⟩) (v := ?_) rfl (by kernel_rfl) (by kernel_rfl) (by kernel_rfl) (fun _ _ _ h => h) (Or.inl ⟨by rfl, ?_⟩) (by assumption) ?_
    rotate_left 1
    · intro W' hSw
      obtain ⟨hS1, hS2⟩ := hSw
      go_simp
      try with_reducible rfl
    try simp only [Act.put, List.setIfInBounds_toArray, List.set_cons_zero, List.set_cons_succ]
    refine wpAnyH_take (i := 11) (oi := ⟨_, _, _, _, _, _⟩) (v := ?_) rfl (by kernel_rfl) (by kernel_rfl) (by kernel_rfl) (fun _ _ _ h => h) (Or.inl ⟨by rfl, ?_⟩) (by assumption) ?_
    rotate_left 1
    · intro W' hSw
      obtain ⟨hS1, hS2⟩ := hSw
      go_simp
      try with_reducible rfl
    try simp only [Act.put, List.setIfInBounds_toArray, List.set_cons_zero, List.set_cons_succ]
    refine wpAnyH_take (i := 12) (oi := ⟨_, _, _, _, _, _⟩) (v := ?_) rfl (by kernel_rfl) (by kernel_rfl) (by kernel_rfl) (fun _ _ _ h => h) (Or.inl ⟨by rfl, ?_⟩) (by assumption) ?_
    rotate_left 1
    · intro W' hSw
      obtain ⟨hS1, hS2⟩ := hSw
      go_simp
      try with_reducible rfl
    try simp only [Act.put, List.setIfInBounds_toArray, List.set_cons_zero, List.set_cons_succ]
    refine wpAnyH_take (i := 13) (oi := ⟨_, _, _, _, _, _⟩) (v := ?_) rfl (by kernel_rfl) (by kernel_rfl) (by kernel_rfl) (fun _ _ _ h => h) (Or.inl ⟨by rfl, ?_⟩) (by assumption) ?_
    rotate_left 1
    · intro W' hSw
      obtain ⟨hS1, hS2⟩ := hSw
      go_simp
      try with_reducible rfl
    try simp only [Act.put, List.setIfInBounds_toArray, List.set_cons_zero, List.set_cons_succ]
    refine wpAnyH_done (by kernel_rfl) ?_ _
    clear hHeld
    go_wp2_with fail
    refine ret_cell (C := Answer.enc (ans 5 0)) rfl rfl ?_ (by kernel_rfl) (by rw [Answer.length_enc]; kernel_rfl) rfl HP.out
    first | (rw [blk_put, if_pos rfl, hb4x]; rfl) | (simp only [blk_put, if_true, hb4x, Option.map_some]; try rfl)
  have hd2 : decide ((p.P.length : Int) ≤ pv) = false := decide_eq_false hge
  obtain ⟨q, hq⟩ : ∃ q : Nat, pv = (q : Int) := ⟨pv.toNat, by omega⟩
  have hqP : q < p.P.length := by omega
  have hro := rowsM_any (HM1.out.ext hxd) h64 q hqP
  have HRO := hid_of hro
  clear hro
  go_upto_region 48 with fail
  refine wp_region_held_drew (S := fun W' => blk W' b3 = some OE ∧ blk W' bm = some Cm) (by kernel_rfl) ⟨hb3, e1⟩ (fun hHeld => ?_)
  refine wpAnyH_take (i := 0) (oi := ⟨_, _, _, _, _, _⟩) (v := ?_) rfl (by kernel_rfl) (by kernel_rfl) (by kernel_rfl) (fun _ _ _ h => h) (Or.inl ⟨by rfl, ?_⟩) (by assumption) ?_
  rotate_left 1
  · intro W' hSw
    obtain ⟨hS1, hS2⟩ := hSw
    go_simp
    try with_reducible rfl
  try simp only [Act.put, List.setIfInBounds_toArray, List.set_cons_zero, List.set_cons_succ]
  refine wpAnyH_take (i := 1) (oi := ⟨_, _, _, _, _, _⟩) (v := ?_) rfl (by kernel_rfl) (by kernel_rfl) (by kernel_rfl) (fun _ _ _ h => h) (Or.inl ⟨by rfl, ?_⟩) (by assumption) ?_
  rotate_left 1
  · intro W' hSw
    obtain ⟨hS1, hS2⟩ := hSw
    go_simp
    try with_reducible rfl
  try simp only [Act.put, List.setIfInBounds_toArray, List.set_cons_zero, List.set_cons_succ]
  refine wpAnyH_take (i := 2) (oi := ⟨_, _, _, _, _, _⟩) (v := ?_) rfl (by kernel_rfl) (by kernel_rfl) (by kernel_rfl) (fun _ _ _ h => h) (Or.inl ⟨by rfl, ?_⟩) (by assumption) ?_
  rotate_left 1
  · intro W' hSw
    obtain ⟨hS1, hS2⟩ := hSw
    go_simp
    try with_reducible rfl
  try simp only [Act.put, List.setIfInBounds_toArray, List.set_cons_zero, List.set_cons_succ]
  refine wpAnyH_take (i := 3) (oi := ⟨_, _, _, _, _, _⟩) (v := ?_) rfl (by kernel_rfl) (by kernel_rfl) (by kernel_rfl) (fun _ _ _ h => h) (Or.inl ⟨by rfl, ?_⟩) (by assumption) ?_
  rotate_left 1
  · intro W' hSw
    obtain ⟨hS1, hS2⟩ := hSw
    go_simp
    try with_reducible rfl
  try simp only [Act.put, List.setIfInBounds_toArray, List.set_cons_zero, List.set_cons_succ]
  refine wpAnyH_take (i := 4) (oi := ⟨_, _, _, _, _, _⟩) (v := ?_) rfl (by kernel_rfl) (by kernel_rfl) (by kernel_rfl) (fun _ _ _ h => h) (Or.inl ⟨by rfl, ?_⟩) (by assumption) ?_
  rotate_left 1
  · intro W' hSw
    obtain ⟨hS1, hS2⟩ := hSw
    go_simp
    try with_reducible rfl
  try simp only [Act.put, List.setIfInBounds_toArray, List.set_cons_zero, List.set_cons_succ]
  refine wpAnyH_take (i := 5) (oi := ⟨_, _, _, _, _, _⟩) (v := ?_) rfl (by kernel_rfl) (by kernel_rfl) (by kernel_rfl) (fun _ _ _ h => h) (Or.inl ⟨by rfl, ?_⟩) (by assumption) ?_
  rotate_left 1
  · intro W' hSw
    obtain ⟨hS1, hS2⟩ := hSw
    go_simp
    try with_reducible rfl
  try simp only [Act.put, List.setIfInBounds_toArray, List.set_cons_zero, List.set_cons_succ]
  refine wpAnyH_take (i := 6) (oi := ⟨_, _, _, _, _, _⟩) (v := ?_) rfl (by kernel_rfl) (by kernel_rfl) (by kernel_rfl) (fun _ _ _ h => h) (Or.inl ⟨by rfl, ?_⟩) (by assumption) ?_
  rotate_left 1
  · intro W' hSw
    obtain ⟨hS1, hS2⟩ := hSw
    go_simp
    try with_reducible rfl
  try simp only [Act.put, List.setIfInBounds_toArray, List.set_cons_zero, List.set_cons_succ]
  refine wpAnyH_take (i := 7) (oi := ⟨_, _, _, _, _, _⟩) (v := ?_) rfl (by kernel_rfl) (by kernel_rfl) (by kernel_rfl) (fun _ _ _ h => h) (Or.inl ⟨by rfl, ?_⟩) (by assumption) ?_
  rotate_left 1
  · intro W' hSw
    obtain ⟨hS1, hS2⟩ := hSw
    go_simp
    try with_reducible rfl
  try simp only [Act.put, List.setIfInBounds_toArray, List.set_cons_zero, List.set_cons_succ]
  refine wpAnyH_take (i := 8) (oi := ⟨_, _, _, _, _, _⟩) (v := ?_) rfl (by kernel_rfl) (by kernel_rfl) (by kernel_rfl) (fun _ _ _ h => h) (Or.inl ⟨by rfl, ?_⟩) (by assumption) ?_
  rotate_left 1
  · intro W' hSw
    obtain ⟨hS1, hS2⟩ := hSw
    go_simp
    try with_reducible rfl
  try simp only [Act.put, List.setIfInBounds_toArray, List.set_cons_zero, List.set_cons_succ]
  refine wpAnyH_take (i := 9) (oi := ⟨_, _, _, _, _, _⟩) (v := ?_) rfl (by kernel_rfl) (by kernel_rfl) (by kernel_rfl) (fun _ _ _ h => h) (Or.inl ⟨by rfl, ?_⟩) (by assumption) ?_
  rotate_left 1
  · intro W' hSw
    obtain ⟨hS1, hS2⟩ := hSw
    go_simp
    try with_reducible rfl
  try simp only [Act.put, List.setIfInBounds_toArray, List.set_cons_zero, List.set_cons_succ]
  refine wpAnyH_take (i := 10) (oi := ⟨_, _, _, _, _, _⟩) (v := ?_) rfl (by kernel_rfl) (by kernel_rfl) (by kernel_rfl) (fun _ _ _ h => h) (Or.inl ⟨by rfl, ?_⟩) (by assumption) ?_
  rotate_left 1
  · intro W' hSw
    obtain ⟨hS1, hS2⟩ := hSw
    go_simp
    try with_reducible rfl
  try simp only [Act.put, List.setIfInBounds_toArray, List.set_cons_zero, List.set_cons_succ]
  refine wpAnyH_take (i := 11) (oi := ⟨_, _, _, _, _, _⟩) (v := ?_) rfl (by kernel_rfl) (by kernel_rfl) (by kernel_rfl) (fun _ _ _ h => h) (Or.inl ⟨by rfl, ?_⟩) (by assumption) ?_
  rotate_left 1
  · intro W' hSw
    obtain ⟨hS1, hS2⟩ := hSw
    go_simp
    try with_reducible rfl
  try simp only [Act.put, List.setIfInBounds_toArray, List.set_cons_zero, List.set_cons_succ]
  refine wpAnyH_take (i := 12) (oi := ⟨_, _, _, _, _, _⟩) (v := ?_) rfl (by kernel_rfl) (by kernel_rfl) (by kernel_rfl) (fun _ _ _ h => h) (Or.inl ⟨by rfl, ?_⟩) (by assumption) ?_
  rotate_left 1
  · intro W' hSw
    obtain ⟨hS1, hS2⟩ := hSw
    go_simp
    try with_reducible rfl
  try simp only [Act.put, List.setIfInBounds_toArray, List.set_cons_zero, List.set_cons_succ]
  refine wpAnyH_take (i := 13) (oi := ⟨_, _, _, _, _, _⟩) (v := ?_) rfl (by kernel_rfl) (by kernel_rfl) (by kernel_rfl) (fun _ _ _ h => h) (Or.inl ⟨by rfl, ?_⟩) (by assumption) ?_
  rotate_left 1
  · intro W' hSw
    obtain ⟨hS1, hS2⟩ := hSw
    go_simp
    try with_reducible rfl
  try simp only [Act.put, List.setIfInBounds_toArray, List.set_cons_zero, List.set_cons_succ]
  refine wpAnyH_done (by kernel_rfl) ?_ _
  clear hHeld hd1 hd2 hlt hge
  subst hq
  have hin : inT p op.pred := by
    rw [← HPV.out]
    exact ⟨by omega, by omega⟩
  have hqn : op.pred.toNat = q := by rw [← HPV.out, Int.toNat_natCast]
  have HIN := hid_of hin
  have HQN := hid_of hqn
  have hb3d : blk W1.drew b3 = some OE := hb3
  clear hin hqn
  go_wp2_with fail
  refine HRO.out.mono ?_
  rintro e V3 ⟨ra, rm, rc, rfl, e9, hrw⟩
  replace e9 := e9.symm
  subst e9
  have HP : Hid (Q (.returned (.agg (Answer.enc ⟨0, 0, ⟨ra, rm, rc⟩⟩).toArray)) (put W1.drew b4 (Answer.enc ⟨0, 0, ⟨ra, rm, rc⟩⟩))) := HF.out W1.drew O1 T U ⟨0, 0, ⟨ra, rm, rc⟩⟩ (rowsM p T U q) (Fr.of_extends hxd) (HM1.out.ext hxd) hrw (by
    have h := MR.list (p := p) (T := T) (U := U) HKD.out HIN.out
    rw [HQN.out] at h; exact h)
  have hb4x : blk W1.drew b4 = some (Answer.enc (ans 0 0)) := hb4
  clear HF hxd HRO hrw
  dsimp only
  go_wp2_with fail
  refine ret_cell (C := Answer.enc (⟨0, 0, ⟨ra, rm, rc⟩⟩)) rfl rfl ?_ (by kernel_rfl) (by rw [Answer.length_enc]; kernel_rfl) rfl HP.out
  first | (rw [blk_put, if_pos rfl, hb4x]; rfl) | (simp only [blk_put, if_true, hb4x, Option.map_some]; try rfl)
end Go.Proofs.Qxb6500788a
