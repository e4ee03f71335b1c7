import Derived.Test.Qxb6500788aKb
import Derived.StillTailTactics
import Derived.Deep.QuietTactic
import Derived.BigQuiet
import Derived.Deep.RegionHeld
import Derived.Deep.CutRange
import Derived.Laws.ResultCell
import Derived.Laws.Rows
import Derived.DeepKeys
import Derived.DataBytes
import Derived.Laws.StructEq
import Derived.Laws.AppendOwn
import Derived.Laws.MakeOwn
set_option linter.unusedSimpArgs false
set_option linter.unusedVariables false
namespace Go.Proofs.Qxb6500788a
open Go.RowKit Go.Blk
attribute [local go_sem ↓] execOp_load execOp_store execOp_alloc
attribute [local go_sem] Try.ld24 Try.st24 Try.ld25 Try.st25 Try.ld3 Try.st3 Try.ld30 Try.st30 Try.ld36 Try.st36 Try.ld4 Try.st4 Try.ld41 Try.st41 Try.ld50 Try.st50 Try.ld40 Try.st40 Try.ld42 Try.st42 Try.ld89 Try.st89 Try.ld91 Try.st91 Try.ld56 Try.st56 Try.ld97 Try.st97 Try.ld98 Try.st98 Try.ld101 Try.st101 Try.ld104 Try.st104 Try.ld57 Try.st57 Try.ld130 Try.st130 Try.ld2 Try.st2 Try.ld5 Try.st5 Try.ld9 Try.st9 Try.ld12 Try.st12 Try.ld21 Try.st21 Try.ld22 Try.st22 Try.ld29 Try.st29 Try.ld33 Try.st33 Try.ld59 Try.st59 Try.ld62 Try.st62 Try.ld69 Try.st69 Try.ld94 Try.st94 Try.ld96 Try.st96 Try.ld129 Try.st129 Try.ld158 Try.st158 Try.ld162 Try.st162 Try.ld47 Try.st47 Try.ld44 Try.st44 Try.ld137 Try.st137 Try.ld145 Try.st145 Try.ld43 Try.st43 Try.ld27 Try.st27 Try.ld38 Try.st38 Try.ld46 Try.st46 Try.ld49 Try.st49 Try.ld52 Try.st52 Try.ld54 Try.st54 Try.ld61 Try.st61 Try.ld80 Try.st80 Try.ld87 Try.st87 Try.ld93 Try.st93 Try.ld100 Try.st100 Try.ld103 Try.st103 Try.ld106 Try.st106 Try.ld109 Try.st109 Try.ld132 Try.st132 Try.ld147 Try.st147 Try.al47 Try.al44 Try.al137 Try.al145 Try.al43 Try.al27 Try.al38 Try.al46 Try.al49 Try.al52 Try.al54 Try.al61 Try.al80 Try.al87 Try.al93 Try.al100 Try.al103 Try.al106 Try.al109 Try.al132 Try.al147
attribute [local go_sem] GProgram.length_enc GProgram.ok_enc GProgram.all_get GProgram.all_set GProgram.preds_get GProgram.preds_set GProgram.rules_get GProgram.rules_set GProgram.strata_get GProgram.strata_set Answer.length_enc Answer.ok_enc Answer.all_get Answer.all_set Answer.code_get Answer.code_set Answer.n_get Answer.n_set Answer.rows_get Answer.rows_set Term.length_enc Term.ok_enc Term.all_get Term.all_set Term.var_get Term.var_set Term.n_get Term.n_set Atom.length_enc Atom.ok_enc Atom.all_get Atom.all_set Atom.pred_get Atom.pred_set Atom.args_get Atom.args_set GRule.length_enc GRule.ok_enc GRule.all_get GRule.all_set GRule.head_get GRule.head_set GRule.body_get GRule.body_set GRule.head_pred_get GRule.head_pred_set GRule.head_args_get GRule.head_args_set GOp.length_enc GOp.ok_enc GOp.all_get GOp.all_set GOp.kind_get GOp.kind_set GOp.pred_get GOp.pred_set GOp.t_get GOp.t_set GOp.n_get GOp.n_set GOp.base_get GOp.base_set GOp.rule_get GOp.rule_set GOp.rule_head_get GOp.rule_head_set GOp.rule_body_get GOp.rule_body_set GOp.rule_head_pred_get GOp.rule_head_pred_set GOp.rule_head_args_get GOp.rule_head_args_set PredInfo.length_enc PredInfo.ok_enc PredInfo.all_get PredInfo.all_set PredInfo.arity_get PredInfo.arity_set PredInfo.base_get PredInfo.base_set PredInfo.stratum_get PredInfo.stratum_set GStats.length_enc GStats.ok_enc GStats.all_get GStats.all_set GStats.rounds_get GStats.rounds_set GStats.fired_get GStats.fired_set GStats.emitted_get GStats.emitted_set GStats.fresh_get GStats.fresh_set Literal.length_enc Literal.ok_enc Literal.all_get Literal.all_set Literal.neg_get Literal.neg_set Literal.atom_get Literal.atom_set Literal.atom_pred_get Literal.atom_pred_set Literal.atom_args_get Literal.atom_args_set Engine.length_enc Engine.ok_enc Engine.all_get Engine.all_set Engine.prog_get Engine.prog_set Engine.st_get Engine.st_set Engine.levels_get Engine.levels_set Engine.running_get Engine.running_set Engine.stratum_get Engine.stratum_set Engine.round_get Engine.round_set Engine.saved_get Engine.saved_set Engine.stats_get Engine.stats_set Engine.prog_preds_get Engine.prog_preds_set Engine.prog_rules_get Engine.prog_rules_set Engine.prog_strata_get Engine.prog_strata_set Engine.stats_rounds_get Engine.stats_rounds_set Engine.stats_fired_get Engine.stats_fired_set Engine.stats_emitted_get Engine.stats_emitted_set Engine.stats_fresh_get Engine.stats_fresh_set Level.length_enc Level.ok_enc Level.all_get Level.all_set Level.heads_get Level.heads_set Level.jobs_get Level.jobs_set Plan.length_enc Plan.ok_enc Plan.all_get Plan.all_set Plan.rule_get Plan.rule_set Plan.delta_get Plan.delta_set Plan.src_get Plan.src_set Job.length_enc Job.ok_enc Job.all_get Job.all_set Job.full_get Job.full_set Job.deltas_get Job.deltas_set Job.full_rule_get Job.full_rule_set Job.full_delta_get Job.full_delta_set Job.full_src_get Job.full_src_set GState.length_enc GState.ok_enc GState.all_get GState.all_set GState.prog_get GState.prog_set GState.base_get GState.base_set GState.shown_get GState.shown_set GState.prog_preds_get GState.prog_preds_set GState.prog_rules_get GState.prog_rules_set GState.prog_strata_get GState.prog_strata_set Store.length_enc Store.ok_enc Store.all_get Store.all_set Store.arity_get Store.arity_set Store.rows_get Store.rows_set Env.length_enc Env.ok_enc Env.all_get Env.all_set Env.val_get Env.val_set Env.set_get Env.set_set
attribute [local go_sem] size_put size_ext blk_put free_put blk_alloc free_alloc blk_drew free_drew blk_ext free_ext lookOr_some putOr_some segAt_some cellAt_some storeIn_some put_put put_alloc_new length_arr ok_arr_u8 ok_arr_u32 ok_arr_u64 ok_arr_i64 ok_arr_sl cellsV_agg cellsV_int cellsV_bool cellsV_string cellsV_pointer cellsV_slice cellsV_sl ok_int ok_bool ok_string ok_pointer ok_slice ok_sl toList_arr seg_arr set_arr nth_splice nth_splice0 seg_splice seg_splice0 splice_splice splice_splice0 length_splice_if
attribute [local go_sem ↓] execOp_box
attribute [local go_sem] box_run nth_arr_u8 put_arr_u8 blk_drewN free_drewN put_drewN blk_raw free_raw
theorem alloc3 (W : World) (A B C : Array Value) (t1 t2 t3 : TypeId) : blk (((W.alloc (.cells A t1)).alloc (.cells B t2)).alloc (.cells C t3)) W.heap.size = some A.toList ∧ free (((W.alloc (.cells A t1)).alloc (.cells B t2)).alloc (.cells C t3)) W.heap.size = true ∧ blk (((W.alloc (.cells A t1)).alloc (.cells B t2)).alloc (.cells C t3)) (W.heap.size + 1) = some B.toList ∧ free (((W.alloc (.cells A t1)).alloc (.cells B t2)).alloc (.cells C t3)) (W.heap.size + 1) = true ∧ blk (((W.alloc (.cells A t1)).alloc (.cells B t2)).alloc (.cells C t3)) (W.heap.size + 1 + 1) = some C.toList := by
  have s1 : (W.alloc (.cells A t1)).heap.size = W.heap.size + 1 := World.size_alloc ..
  have s2 : ((W.alloc (.cells A t1)).alloc (.cells B t2)).heap.size = W.heap.size + 1 + 1 := by rw [World.size_alloc, s1]
  refine ⟨?_, ?_, ?_, ?_, ?_⟩
  · rw [blk_alloc, if_neg (by rw [s2]; omega), blk_alloc, if_neg (by rw [s1]; omega), blk_alloc, if_pos rfl]
  · rw [free_alloc, if_neg (by rw [s2]; omega), free_alloc, if_neg (by rw [s1]; omega), free_alloc, if_pos rfl]
  · rw [blk_alloc, if_neg (by rw [s2]; omega), blk_alloc, if_pos s1.symm]
  · rw [free_alloc, if_neg (by rw [s2]; omega), free_alloc, if_pos s1.symm]
  · rw [blk_alloc, if_pos s2.symm]
attribute [local go_sem ↓] execOp_make execOp_build
attribute [local go_sem] make57 build109 ms_len prg_len prg0 prg1 prg2 prg_all prg_ok
set_option maxRecDepth 20000 in
set_option maxHeartbeats 2000000 in
theorem newM_any (W0 : World) (O : Own) (W : World) (p : Pg) (x0 : GProgram) (hW0 : W0.Extends W) (hold : ∀ k, k < W0.heap.size → O k = .no) (hprg : PrgC (core O W) x0 p) (hok : PgOk p) : Calls Try.prog 12 #[.agg x0.enc.toArray] W (NewMP W0 O W p) := by
  obtain ⟨Q, hQ⟩ : ∃ Q, Q = NewMP W0 O W p := ⟨_, rfl⟩
  rw [← hQ]
  have HQ := hid_of hQ
  have h64 := hok.nP
  have h100 : p.P.length ≤ 100 := by omega
  obtain ⟨⟨aP, N, cP⟩, ⟨aR, M, cR⟩, St⟩ := x0
  obtain ⟨p1, p2, p3, p4⟩ := hprg
  dsimp only at p1 p2 p3
  subst p1 p2 p3
  have hprg : PrgC (core O W) ⟨⟨aP, p.P.length, cP⟩, ⟨aR, p.R.length, cR⟩, p.St⟩ p := ⟨rfl, rfl, rfl, p4⟩
  have HF : Hid (∀ bb bs bm V, W.Extends V → W.heap.size ≤ bb → W.heap.size ≤ bs → W.heap.size ≤ bm → bb ≠ bs → bm ≠ bb → bm ≠ bs → blk V bm = some (msE aP p.P.length cP aR p.R.length cR p.St bb p.P.length p.P.length bs p.P.length p.P.length) → blk V bb = some (List.replicate p.P.length (.slice none 0 0)) → free V bb = true → blk V bs = some (List.replicate p.P.length (.slice none 0 0)) → free V bs = true → Q (.returned (.pointer (some ⟨bm, 0, none⟩))) V) := by
    intro bb bs bm V hx hb1 hb2 hb3 hn1 hn2 hn3 hm hbb hfb hbs hfs
    rw [HQ.out]
    obtain ⟨O', hO'⟩ : ∃ O' : Own, O' = fun k => if k < W.heap.size then O k else if k = bb then .a 8 0 else if k = bs then .a 7 0 else .no := ⟨_, rfl⟩
    have o1 : ∀ k, k < W.heap.size → O' k = O k := fun k hk => by rw [hO']; exact if_pos hk
    have o2 : O' bb = .a 8 0 := by rw [hO']; show (if bb < W.heap.size then _ else _) = _; rw [if_neg (by omega), if_pos rfl]
    have o3 : O' bs = .a 7 0 := by rw [hO']; show (if bs < W.heap.size then _ else _) = _; rw [if_neg (by omega), if_neg (fun e => hn1 e.symm), if_pos rfl]
    have o4 : O' bm = .no := by rw [hO']; show (if bm < W.heap.size then _ else _) = _; rw [if_neg (by omega), if_neg hn2, if_neg hn3]
    have hsub : Sub (core O W) (core O' V) := Sub.cores (fun b C hb ho => ⟨(hx.blk (blk_lt hb)).trans hb, (o1 b (blk_lt hb)).trans ho⟩)
    have hmc : blk (core O' V) bm = some _ := blk_core hm o4
    have hs0 := hW0.size
    refine ⟨bm, bb, bs, O', rfl, hx, o1, ⟨⟨_, hmc, by rw [ms_len]; exact Nat.le_refl _, rfl, rfl⟩, ⟨aP, cP, aR, cR, _, hmc, by rw [ms_len]; omega, rfl, rfl, rfl, hprg.sub hsub⟩, ⟨hW0.trans hx, by omega, fun k hk => (o1 k (by omega)).trans (hold k hk), o2, hfb, _, hbb, by simp, fun q hq => ⟨none, 0, 0, by unfold nth; rw [List.getElem?_replicate, if_pos hq], RowL.nil _ _ _ _ _ _⟩⟩, o3, hfs, _, hbs, by simp, fun q hq => ⟨none, 0, 0, by unfold nth; rw [List.getElem?_replicate, if_pos hq], rw_nilT _⟩⟩⟩
  show Calls Try.prog 12 #[.agg (prgE aP p.P.length cP aR p.R.length cR p.St).toArray] W Q
  clear hQ hprg p4 hW0 hold hok
  go_enter Try.func12, Try.ntmps12
  go_upto_region 1 with fail
  refine wp_world (fun V => blk V W.heap.size = some (prgE aP p.P.length cP aR p.R.length cR p.St) ∧ W.Extends V ∧ W.heap.size < V.heap.size) ⟨?_, ?_, ?_⟩ ?_
  · first | (rw [blk_put, if_pos rfl, blk_alloc, if_pos rfl]; rfl) | (rw [blk_alloc, if_pos rfl])
  · first | exact extends_put (extends_alloc (ext_Ext (Ext.refl _)) _) (Nat.le_refl _) _ | exact extends_alloc (ext_Ext (Ext.refl _)) _
  · simp only [World.size_alloc, size_put]; omega
  rintro W1 ⟨hb1, hx1, hs1⟩
  obtain ⟨b1, e1⟩ : ∃ b1, b1 = W.heap.size := ⟨_, rfl⟩
  rw [← e1] at hb1 hs1 ⊢
  have HE1 := hid_of e1
  have HX1 := hid_of hx1
  have HS1 := hid_of hs1
  have hkp : ∀ (V : World) (x : List Value) (ty : TypeId), blk V b1 = some (prgE aP p.P.length cP aR p.R.length cR p.St) → blk (V.alloc (.cells x.toArray ty)) b1 = some (prgE aP p.P.length cP aR p.R.length cR p.St) := fun V x ty h => by
    rw [blk_alloc, if_neg (by have := blk_lt h; omega)]; exact h
  have HKP := hid_of hkp
  clear e1 hx1 hs1 hkp
  refine wp_region_held_drew (S := fun W' => blk W' b1 = some (prgE aP p.P.length cP aR p.R.length cR p.St)) (by kernel_rfl) hb1 (fun hHeld => ?_)
  refine wpAnyH_take (i := 0) (oi := ⟨_, _, _, _, _, _⟩) (v := ?_) rfl (by kernel_rfl) (by kernel_rfl) (by kernel_rfl) (fun _ _ _ h => h) (Or.inl ⟨by rfl, ?_⟩) (by assumption) ?_
  rotate_left 1
  · intro W' hSw
    go_simp
    try with_reducible rfl
  try simp only [Act.put, List.setIfInBounds_toArray, List.set_cons_zero, List.set_cons_succ]
  refine wpAnyH_take (i := 1) (oi := ⟨_, _, _, _, _, _⟩) (v := ?_) rfl (by kernel_rfl) (by kernel_rfl) (by kernel_rfl) (fun _ _ _ h => h) (Or.inl ⟨by rfl, ?_⟩) (by assumption) ?_
  rotate_left 1
  · intro W' hSw
    go_simp
    try with_reducible rfl
  try simp only [Act.put, List.setIfInBounds_toArray, List.set_cons_zero, List.set_cons_succ]
  refine wpAnyH_take (i := 2) (oi := ⟨_, _, _, _, _, _⟩) (v := ?_) rfl (by kernel_rfl) (by kernel_rfl) (by kernel_rfl) (fun _ _ _ h => h) (Or.inl ⟨by rfl, ?_⟩) (by assumption) ?_
  rotate_left 1
  · intro W' hSw
    go_simp
    try with_reducible rfl
  try simp only [Act.put, List.setIfInBounds_toArray, List.set_cons_zero, List.set_cons_succ]
  refine wpAnyH_take (i := 3) (oi := ⟨_, _, _, _, _, _⟩) (v := ?_) rfl (by kernel_rfl) (by kernel_rfl) (by kernel_rfl) (fun _ _ _ h => h) (Or.inl ⟨by rfl, ?_⟩) (by assumption) ?_
  rotate_left 1
  · intro W' hSw
    go_simp
    try with_reducible rfl
  try simp only [Act.put, List.setIfInBounds_toArray, List.set_cons_zero, List.set_cons_succ]
  refine wpAnyH_take (i := 5) (oi := ⟨_, _, _, _, _, _⟩) (v := ?_) rfl (by kernel_rfl) (by kernel_rfl) (by kernel_rfl) (fun _ _ _ h => h) (Or.inl ⟨by rfl, ?_⟩) (by assumption) ?_
  rotate_left 1
  · intro W' hSw
    go_simp
    try with_reducible rfl
  try simp only [Act.put, List.setIfInBounds_toArray, List.set_cons_zero, List.set_cons_succ]
  refine wpAnyH_take (i := 6) (oi := ⟨_, _, _, _, _, _⟩) (v := ?_) rfl (by kernel_rfl) (by kernel_rfl) (by kernel_rfl) (fun _ _ _ h => h) (Or.inl ⟨by rfl, ?_⟩) (by assumption) ?_
  rotate_left 1
  · intro W' hSw
    go_simp
    try with_reducible rfl
  try simp only [Act.put, List.setIfInBounds_toArray, List.set_cons_zero, List.set_cons_succ]
  refine wpAnyH_take (i := 7) (oi := ⟨_, _, _, _, _, _⟩) (v := ?_) rfl (by kernel_rfl) (by kernel_rfl) (by kernel_rfl) (fun _ _ _ h => h) (Or.inl ⟨by rfl, ?_⟩) (by assumption) ?_
  rotate_left 1
  · intro W' hSw
    go_simp
    try with_reducible rfl
  try simp only [Act.put, List.setIfInBounds_toArray, List.set_cons_zero, List.set_cons_succ]
  refine wpAnyH_ready (rs := [4, 8]) (by kernel_rfl) (by simp) ?_
  refine AllReadyH.cons (o := ⟨_, _, _, _, _, _⟩) rfl (fun K' hK => ?_) (AllReadyH.cons (o := ⟨_, _, _, _, _, _⟩) rfl (fun K' hK => ?_) AllReadyH.nil)
  · go_simp
    refine hK.out _ _ (HKP.out _ _ _ hb1) (fun hHeld => ?_)
    clear hK K'
    try simp only [Act.put, List.setIfInBounds_toArray, List.set_cons_zero, List.set_cons_succ]
    refine wpAnyH_ready (rs := [8]) (by kernel_rfl) (by simp) ?_
    refine AllReadyH.cons (o := ⟨_, _, _, _, _, _⟩) rfl (fun K' hK => ?_) AllReadyH.nil
    go_simp
    refine hK.out _ _ (HKP.out _ _ _ (HKP.out _ _ _ hb1)) (fun hHeld => ?_)
    clear hK K'
    try simp only [Act.put, List.setIfInBounds_toArray, List.set_cons_zero, List.set_cons_succ]
    refine wpAnyH_take (i := 9) (oi := ⟨_, _, _, _, _, _⟩) (v := ?_) rfl (by kernel_rfl) (by kernel_rfl) (by kernel_rfl) (fun _ _ _ h => h) (Or.inl ⟨by rfl, ?_⟩) (by assumption) ?_
    rotate_left 1
    · intro W' hSw
      go_simp
      try with_reducible rfl
    try simp only [Act.put, List.setIfInBounds_toArray, List.set_cons_zero, List.set_cons_succ]
    refine wpAnyH_ready (rs := [10]) (by kernel_rfl) (by simp) ?_
    refine AllReadyH.cons (o := ⟨_, _, _, _, _, _⟩) rfl (fun K' hK => ?_) AllReadyH.nil
    go_simp
    refine hK.out _ _ (HKP.out _ _ _ (HKP.out _ _ _ (HKP.out _ _ _ hb1))) (fun hHeld => ?_)
    clear hK K'
    try simp only [Act.put, List.setIfInBounds_toArray, List.set_cons_zero, List.set_cons_succ]
    refine wpAnyH_take (i := 11) (oi := ⟨_, _, _, _, _, _⟩) (v := ?_) rfl (by kernel_rfl) (by kernel_rfl) (by kernel_rfl) (fun _ _ _ h => h) (Or.inl ⟨by rfl, ?_⟩) (by assumption) ?_
    rotate_left 1
    · intro W' hSw
      go_simp
      try with_reducible rfl
    try simp only [Act.put, List.setIfInBounds_toArray, List.set_cons_zero, List.set_cons_succ]
    refine wpAnyH_done (by kernel_rfl) ?_ _
    clear hHeld
    go_wp2_with fail
    try go_ret
    have hsz := HS1.out
    have hbs1 := HE1.out
    refine HF.out (W1.heap.size) (W1.heap.size + 1) (W1.heap.size + 1 + 1) _ ?_ ?_ ?_ ?_ ?_ ?_ ?_ ?_ ?_ ?_ ?_ ?_
    · first | exact extends_drew (extends_alloc (extends_alloc (extends_alloc HX1.out _) _) _) | exact extends_alloc (extends_alloc (extends_alloc (extends_drew HX1.out) _) _) _
    · omega
    · omega
    · omega
    · omega
    · omega
    · omega
    all_goals first | rw [blk_drew] | rw [free_drew] | skip
    all_goals obtain ⟨w1, w2, w3, w4, w5⟩ := alloc3 W1 (Array.replicate p.P.length (Value.slice none 0 0)) (Array.replicate p.P.length (Value.slice none 0 0)) (msE aP p.P.length cP aR p.R.length cR p.St (W1.heap.size) p.P.length p.P.length (W1.heap.size + 1) p.P.length p.P.length).toArray 36 36 109
    · exact w5
    · exact w1.trans (by simp)
    · exact w2
    · exact w3.trans (by simp)
    · exact w4
  · go_simp
    refine hK.out _ _ (HKP.out _ _ _ hb1) (fun hHeld => ?_)
    clear hK K'
    try simp only [Act.put, List.setIfInBounds_toArray, List.set_cons_zero, List.set_cons_succ]
    refine wpAnyH_ready (rs := [4]) (by kernel_rfl) (by simp) ?_
    refine AllReadyH.cons (o := ⟨_, _, _, _, _, _⟩) rfl (fun K' hK => ?_) AllReadyH.nil
    go_simp
    refine hK.out _ _ (HKP.out _ _ _ (HKP.out _ _ _ hb1)) (fun hHeld => ?_)
    clear hK K'
    try simp only [Act.put, List.setIfInBounds_toArray, List.set_cons_zero, List.set_cons_succ]
    refine wpAnyH_take (i := 9) (oi := ⟨_, _, _, _, _, _⟩) (v := ?_) rfl (by kernel_rfl) (by kernel_rfl) (by kernel_rfl) (fun _ _ _ h => h) (Or.inl ⟨by rfl, ?_⟩) (by assumption) ?_
    rotate_left 1
    · intro W' hSw
      go_simp
      try with_reducible rfl
    try simp only [Act.put, List.setIfInBounds_toArray, List.set_cons_zero, List.set_cons_succ]
    refine wpAnyH_ready (rs := [10]) (by kernel_rfl) (by simp) ?_
    refine AllReadyH.cons (o := ⟨_, _, _, _, _, _⟩) rfl (fun K' hK => ?_) AllReadyH.nil
    go_simp
    refine hK.out _ _ (HKP.out _ _ _ (HKP.out _ _ _ (HKP.out _ _ _ hb1))) (fun hHeld => ?_)
    clear hK K'
    try simp only [Act.put, List.setIfInBounds_toArray, List.set_cons_zero, List.set_cons_succ]
    refine wpAnyH_take (i := 11) (oi := ⟨_, _, _, _, _, _⟩) (v := ?_) rfl (by kernel_rfl) (by kernel_rfl) (by kernel_rfl) (fun _ _ _ h => h) (Or.inl ⟨by rfl, ?_⟩) (by assumption) ?_
    rotate_left 1
    · intro W' hSw
      go_simp
      try with_reducible rfl
    try simp only [Act.put, List.setIfInBounds_toArray, List.set_cons_zero, List.set_cons_succ]
    refine wpAnyH_done (by kernel_rfl) ?_ _
    clear hHeld
    go_wp2_with fail
    try go_ret
    have hsz := HS1.out
    have hbs1 := HE1.out
    refine HF.out (W1.heap.size + 1) (W1.heap.size) (W1.heap.size + 1 + 1) _ ?_ ?_ ?_ ?_ ?_ ?_ ?_ ?_ ?_ ?_ ?_ ?_
    · first | exact extends_drew (extends_alloc (extends_alloc (extends_alloc HX1.out _) _) _) | exact extends_alloc (extends_alloc (extends_alloc (extends_drew HX1.out) _) _) _
    · omega
    · omega
    · omega
    · omega
    · omega
    · omega
    all_goals first | rw [blk_drew] | rw [free_drew] | skip
    all_goals obtain ⟨w1, w2, w3, w4, w5⟩ := alloc3 W1 (Array.replicate p.P.length (Value.slice none 0 0)) (Array.replicate p.P.length (Value.slice none 0 0)) (msE aP p.P.length cP aR p.R.length cR p.St (W1.heap.size + 1) p.P.length p.P.length (W1.heap.size) p.P.length p.P.length).toArray 36 36 109
    · exact w5
    · exact w3.trans (by simp)
    · exact w4
    · exact w1.trans (by simp)
    · exact w2
end Go.Proofs.Qxb6500788a
