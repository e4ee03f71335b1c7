import Derived.Test.Qxb6500788aSf2
import Derived.StillTailTactics
import Derived.Deep.QuietTactic
import Derived.BigQuiet
import Derived.Deep.RegionHeld
import Derived.Deep.CutRange
import Derived.Laws.ResultCell
import Derived.Laws.Rows
import Derived.DeepKeys
import Derived.DataBytes
import Derived.Laws.StructEq
import Derived.Laws.AppendOwn
set_option linter.unusedSimpArgs false
set_option linter.unusedVariables false
namespace Go.Proofs.Qxb6500788a
open Go.RowKit Go.Blk
attribute [local go_sem ↓] execOp_load execOp_store execOp_alloc
attribute [local go_sem] Try.ld24 Try.st24 Try.ld25 Try.st25 Try.ld3 Try.st3 Try.ld30 Try.st30 Try.ld36 Try.st36 Try.ld4 Try.st4 Try.ld41 Try.st41 Try.ld50 Try.st50 Try.ld40 Try.st40 Try.ld42 Try.st42 Try.ld89 Try.st89 Try.ld91 Try.st91 Try.ld56 Try.st56 Try.ld97 Try.st97 Try.ld98 Try.st98 Try.ld101 Try.st101 Try.ld104 Try.st104 Try.ld57 Try.st57 Try.ld130 Try.st130 Try.ld2 Try.st2 Try.ld5 Try.st5 Try.ld9 Try.st9 Try.ld12 Try.st12 Try.ld21 Try.st21 Try.ld22 Try.st22 Try.ld29 Try.st29 Try.ld33 Try.st33 Try.ld59 Try.st59 Try.ld62 Try.st62 Try.ld69 Try.st69 Try.ld94 Try.st94 Try.ld96 Try.st96 Try.ld129 Try.st129 Try.ld158 Try.st158 Try.ld162 Try.st162 Try.ld47 Try.st47 Try.ld44 Try.st44 Try.ld137 Try.st137 Try.ld145 Try.st145 Try.ld43 Try.st43 Try.ld27 Try.st27 Try.ld38 Try.st38 Try.ld46 Try.st46 Try.ld49 Try.st49 Try.ld52 Try.st52 Try.ld54 Try.st54 Try.ld61 Try.st61 Try.ld80 Try.st80 Try.ld87 Try.st87 Try.ld93 Try.st93 Try.ld100 Try.st100 Try.ld103 Try.st103 Try.ld106 Try.st106 Try.ld109 Try.st109 Try.ld132 Try.st132 Try.ld147 Try.st147 Try.al47 Try.al44 Try.al137 Try.al145 Try.al43 Try.al27 Try.al38 Try.al46 Try.al49 Try.al52 Try.al54 Try.al61 Try.al80 Try.al87 Try.al93 Try.al100 Try.al103 Try.al106 Try.al109 Try.al132 Try.al147
attribute [local go_sem] GProgram.length_enc GProgram.ok_enc GProgram.all_get GProgram.all_set GProgram.preds_get GProgram.preds_set GProgram.rules_get GProgram.rules_set GProgram.strata_get GProgram.strata_set Answer.length_enc Answer.ok_enc Answer.all_get Answer.all_set Answer.code_get Answer.code_set Answer.n_get Answer.n_set Answer.rows_get Answer.rows_set Term.length_enc Term.ok_enc Term.all_get Term.all_set Term.var_get Term.var_set Term.n_get Term.n_set Atom.length_enc Atom.ok_enc Atom.all_get Atom.all_set Atom.pred_get Atom.pred_set Atom.args_get Atom.args_set GRule.length_enc GRule.ok_enc GRule.all_get GRule.all_set GRule.head_get GRule.head_set GRule.body_get GRule.body_set GRule.head_pred_get GRule.head_pred_set GRule.head_args_get GRule.head_args_set GOp.length_enc GOp.ok_enc GOp.all_get GOp.all_set GOp.kind_get GOp.kind_set GOp.pred_get GOp.pred_set GOp.t_get GOp.t_set GOp.n_get GOp.n_set GOp.base_get GOp.base_set GOp.rule_get GOp.rule_set GOp.rule_head_get GOp.rule_head_set GOp.rule_body_get GOp.rule_body_set GOp.rule_head_pred_get GOp.rule_head_pred_set GOp.rule_head_args_get GOp.rule_head_args_set PredInfo.length_enc PredInfo.ok_enc PredInfo.all_get PredInfo.all_set PredInfo.arity_get PredInfo.arity_set PredInfo.base_get PredInfo.base_set PredInfo.stratum_get PredInfo.stratum_set GStats.length_enc GStats.ok_enc GStats.all_get GStats.all_set GStats.rounds_get GStats.rounds_set GStats.fired_get GStats.fired_set GStats.emitted_get GStats.emitted_set GStats.fresh_get GStats.fresh_set Literal.length_enc Literal.ok_enc Literal.all_get Literal.all_set Literal.neg_get Literal.neg_set Literal.atom_get Literal.atom_set Literal.atom_pred_get Literal.atom_pred_set Literal.atom_args_get Literal.atom_args_set Engine.length_enc Engine.ok_enc Engine.all_get Engine.all_set Engine.prog_get Engine.prog_set Engine.st_get Engine.st_set Engine.levels_get Engine.levels_set Engine.running_get Engine.running_set Engine.stratum_get Engine.stratum_set Engine.round_get Engine.round_set Engine.saved_get Engine.saved_set Engine.stats_get Engine.stats_set Engine.prog_preds_get Engine.prog_preds_set Engine.prog_rules_get Engine.prog_rules_set Engine.prog_strata_get Engine.prog_strata_set Engine.stats_rounds_get Engine.stats_rounds_set Engine.stats_fired_get Engine.stats_fired_set Engine.stats_emitted_get Engine.stats_emitted_set Engine.stats_fresh_get Engine.stats_fresh_set Level.length_enc Level.ok_enc Level.all_get Level.all_set Level.heads_get Level.heads_set Level.jobs_get Level.jobs_set Plan.length_enc Plan.ok_enc Plan.all_get Plan.all_set Plan.rule_get Plan.rule_set Plan.delta_get Plan.delta_set Plan.src_get Plan.src_set Job.length_enc Job.ok_enc Job.all_get Job.all_set Job.full_get Job.full_set Job.deltas_get Job.deltas_set Job.full_rule_get Job.full_rule_set Job.full_delta_get Job.full_delta_set Job.full_src_get Job.full_src_set GState.length_enc GState.ok_enc GState.all_get GState.all_set GState.prog_get GState.prog_set GState.base_get GState.base_set GState.shown_get GState.shown_set GState.prog_preds_get GState.prog_preds_set GState.prog_rules_get GState.prog_rules_set GState.prog_strata_get GState.prog_strata_set Store.length_enc Store.ok_enc Store.all_get Store.all_set Store.arity_get Store.arity_set Store.rows_get Store.rows_set Env.length_enc Env.ok_enc Env.all_get Env.all_set Env.val_get Env.val_set Env.set_get Env.set_set
attribute [local go_sem] size_put size_ext blk_put free_put blk_alloc free_alloc blk_drew free_drew blk_ext free_ext lookOr_some putOr_some segAt_some cellAt_some storeIn_some put_put put_alloc_new length_arr ok_arr_u8 ok_arr_u32 ok_arr_u64 ok_arr_i64 ok_arr_sl cellsV_agg cellsV_int cellsV_bool cellsV_string cellsV_pointer cellsV_slice cellsV_sl ok_int ok_bool ok_string ok_pointer ok_slice ok_sl toList_arr seg_arr set_arr nth_splice nth_splice0 seg_splice seg_splice0 splice_splice splice_splice0 length_splice_if
attribute [local go_sem ↓] execOp_box
attribute [local go_sem] box_run nth_arr_u8 put_arr_u8 blk_drewN free_drewN put_drewN blk_raw free_raw
set_option maxRecDepth 100000 in
theorem frame72 (f : Nat → Value) : frameN 72 f = #[f 0, f 1, f 2, f 3, f 4, f 5, f 6, f 7, f 8, f 9, f 10, f 11, f 12, f 13, f 14, f 15, f 16, f 17, f 18, f 19, f 20, f 21, f 22, f 23, f 24, f 25, f 26, f 27, f 28, f 29, f 30, f 31, f 32, f 33, f 34, f 35, f 36, f 37, f 38, f 39, f 40, f 41, f 42, f 43, f 44, f 45, f 46, f 47, f 48, f 49, f 50, f 51, f 52, f 53, f 54, f 55, f 56, f 57, f 58, f 59, f 60, f 61, f 62, f 63, f 64, f 65, f 66, f 67, f 68, f 69, f 70, f 71] := by kernel_rfl
theorem PM.ext {bp bP : Nat} {aP : Option Addr} {N cP : Nat} {aR : Option Addr} {M cR : Nat} {S : Int} {P : List PredInfo} {W W' : World} (h : PM bp bP aP N cP aR M cR S P W) (he : Ext W W') : PM bp bP aP N cP aR M cR S P W' := by
  obtain ⟨h1, h2, h3, h4⟩ := h
  refine ⟨(he.blk (blk_lt h1)).trans h1, (he.free (blk_lt h1)).trans h2, h3.mono (fun h0 => ?_), fun h0 => ?_⟩
  · obtain ⟨_, C, h5, _⟩ := h3.2 h0
    exact he.blk (blk_lt h5)
  · obtain ⟨_, C, h5, _⟩ := h3.2 h0
    exact (he.free (blk_lt h5)).trans (h4 h0)
/-- The rules' bodies can be read. -/
def RulesRd (W : World) (bp bP : Nat) (R : List GRule) : Prop :=
  ∀ r ∈ R, ∃ ba bn bc bL oL L, Sl.val r.body = .slice ba bn bc ∧ At Literal.enc 10 W bL oL ba bn L ∧ bL ≠ bp ∧ bL ≠ bP ∧ bn ≤ 9223372036854775807
def VerPost (bp bP : Nat) (aP : Option Addr) (N cP : Nat) (aR : Option Addr) (M cR : Nat) (S : Int) (P : List PredInfo) (R : List GRule) (w : World) (e : Ending) (w' : World) : Prop :=
  ∃ b P' S', e = .returned (.bool b) ∧ PM bp bP aP N cP aR M cR S' P' w' ∧ Kin P P' ∧ Side (DS N bp bP) w w' ∧ (b = true → (1 ≤ S' ∧ S' ≤ 65) ∧ M ≤ 128 ∧ RulesOk w bp bP N P R) ∧ (b = false → S' = S) ∧ (M = 0 → b = true)
def vfA (bp : Nat) (N : Nat) (w : World) (f : Nat → Value) (W : World) : Prop :=
  f 0 = .pointer (some ⟨bp, 0, none⟩) ∧ W = w ∧ ∃ i : Nat, i ≤ N ∧ f 3 = .int .i64 (i : Nat)
def vfB (bp bP : Nat) (N M : Nat) (P : List PredInfo) (R : List GRule) (w : World) (f : Nat → Value) (W : World) : Prop :=
  f 0 = .pointer (some ⟨bp, 0, none⟩) ∧ ∃ i : Nat, i ≤ M ∧ f 4 = .int .i64 (i : Nat) ∧ Hid (Ext w W) ∧ Hid (RulesOk w bp bP N P (R.take i))
attribute [local go_sem] prg_len prg0 prg1 prg2 prg_set0 prg_set1 prg_set2 prg_all prg_ok
set_option maxRecDepth 20000 in
set_option maxHeartbeats 8000000 in
theorem verify_any (w : World) (bp bP bR : Nat) (aP : Option Addr) (N cP : Nat) (aR : Option Addr) (M cR : Nat) (S : Int) (P : List PredInfo) (R : List GRule) (hPM : PM bp bP aP N cP aR M cR S P w) (hne : bp ≠ bP) (hR : At GRule.enc 10 w bR 0 aR M R) (hRne : M ≠ 0 → bR ≠ bp ∧ (N ≠ 0 → bR ≠ bP)) (hRd : RulesRd w bp bP R) (hN : N ≤ 64) (hM : M ≤ 9223372036854775807) (hA : ∀ x ∈ P, 0 ≤ x.arity ∧ x.arity ≤ 4) :
    Calls Try.prog 40 #[.pointer (some ⟨bp, 0, none⟩)] w (VerPost bp bP aP N cP aR M cR S P R w) := by
  have HPM : Hid (PM bp bP aP N cP aR M cR S P w) := hPM
  have HRm : ∀ W, Hid (Ext w W → At GRule.enc 10 W bR 0 aR M R) := fun W he => hR.mono (fun h0 => by
    obtain ⟨_, C, h1, _⟩ := hR.2 h0
    exact he.blk (blk_lt h1))
  have HRD : Hid (RulesRd w bp bP R) := hRd
  have HRN : Hid (M ≠ 0 → bR ≠ bp ∧ (N ≠ 0 → bR ≠ bP)) := hRne
  have HNE : Hid (bp ≠ bP) := hne
  have HA : Hid (∀ x ∈ P, 0 ≤ x.arity ∧ x.arity ≤ 4) := hA
  have HRl : Hid (R.length = M) := hR.1
  clear hR hRne hRd hA
  obtain ⟨hb, hbf, _, _⟩ := hPM
  have n64 : ¬ (64 : Int) < (N : Int) := by omega
  go_enter Try.func40, Try.ntmps40
  by_cases h128 : (128 : Int) < (M : Int)
  · go_wp2_with fail
    go_ret
    exact ⟨false, P, S, rfl, HPM.out, rfl, Side.refl _ _, fun h => absurd h (by decide), fun _ => rfl, fun h0 => absurd h0 (by omega)⟩
  have hM2 : M ≤ 128 := by omega
  go_wp2_with fail
  refine wp_loop_f 72 (vfA bp N w) (fun f _ => N - (intOf (f 3)).toNat) rfl ?_ ?_
  · exact ⟨rfl, rfl, 0, by omega, rfl⟩
  intro F W hrel
  obtain ⟨f0, hW, i, hi, f3⟩ := hrel
  obtain rfl : W = w := hW
  have H3 : Hid (F 3 = .int .i64 (i : Nat)) := f3
  rw [frame72, f0, f3]
  clear f0 f3
  by_cases hiN : i < N
  · obtain ⟨x, C, hx, rfl, hC, hCf, hCl, hx0, _, _, _⟩ := HPM.out.at hiN
    obtain ⟨a0, a4⟩ := HA.out x (List.mem_of_getElem? hx)
    obtain ⟨s, hs⟩ : ∃ s, s = x.arity := ⟨_, rfl⟩
    rw [← hs] at hx0 a0 a4
    have n1 : ¬ s < 0 := by omega
    have n2 : ¬ 4 < s := by omega
    have i0 : (0 : Int) ≤ (i : Int) := by omega
    have i1 : (i : Int) < (N : Int) := by omega
    have i2 : ((i : Int)).toNat = i := by omega
    have l1 : i * 3 < C.length := by omega
    clear hx hs
    go_wp2_with fail
    refine ⟨rfl, rfl, ⟨rfl, rfl, i + 1, by omega, ?_⟩, ?_⟩
    · show Value.int .i64 _ = _
      go_num
    · show N - (intOf (Value.int .i64 _)).toNat < N - (intOf (F 3)).toNat
      rw [H3.out]
      simp [intOf]; omega
  obtain rfl : i = N := by omega
  go_wp2_with fail
  clear H3
  refine wp_loop_f 72 (vfB bp bP i M P R W) (fun f _ => M - (intOf (f 4)).toNat) rfl ?_ ?_
  · exact ⟨rfl, 0, by omega, rfl, Ext.refl _, fun r hr => by simp at hr⟩
  clear hb hbf
  intro F V hrel
  obtain ⟨f0, k, hk, f4, HE, HO⟩ := hrel
  have H4 : Hid (F 4 = .int .i64 (k : Nat)) := f4
  rw [frame72, f0, f4]
  clear f0 f4
  have HPV : Hid (PM bp bP aP i cP aR M cR S P V) := HPM.out.ext HE.out
  obtain ⟨hb, hbf, _, _⟩ := HPV.out
  by_cases hkM : k < M
  · obtain ⟨r, CR, hr, rfl, hCR, hCRl, hrs⟩ := ((HRm V).out HE.out).get hkM
    rw [Nat.zero_add] at hrs hCRl
    obtain ⟨ba, bn, bc, bL, oL, L, hsv, hL, g1, g2, hbn⟩ := HRD.out r (List.mem_of_getElem? hr)
    have HRK : Hid (R[k]? = some r) := hr
    have HSV : Hid (Sl.val r.body = .slice ba bn bc) := hsv
    have HL : Hid (At Literal.enc 10 W bL oL ba bn L ∧ bL ≠ bp ∧ bL ≠ bP) := ⟨hL, g1, g2⟩
    have HLm : Hid (∀ V, Ext W V → At Literal.enc 10 V bL oL ba bn L) := fun V he => hL.mono (fun h0 => by
      obtain ⟨_, C, h1, _⟩ := hL.2 h0
      exact he.blk (blk_lt h1))
    have k0 : (0 : Int) ≤ (k : Int) := by omega
    have k1 : (k : Int) < (M : Int) := by omega
    have k2 : ((k : Int)).toNat = k := by omega
    have l1 : k * 10 + 10 ≤ CR.length := by omega
    clear hr hsv hL g1 g2 hCRl
    repeat go_step
    refine wp_region_held_drew (S := fun W' => blk W' bp = some (prgE aP i cP (some ⟨bR, 0, none⟩) M cR S) ∧ blk W' bR = some CR) (by kernel_rfl) ⟨hb, hCR⟩ (fun hHeld => ?_)
    refine wpAnyH_take (i := 0) (oi := ⟨_, _, _, _, _, _⟩) (v := ?_) rfl (by kernel_rfl) (by kernel_rfl) (by kernel_rfl) (fun _ _ _ h => h) (Or.inl ⟨by rfl, ?_⟩) (by assumption) ?_
    rotate_left 1
    · intro W' hSw
      obtain ⟨hS1, hS2⟩ := hSw
      go_simp
      try with_reducible rfl
    try simp only [Act.put, List.setIfInBounds_toArray, List.set_cons_zero, List.set_cons_succ]
    refine wpAnyH_take (i := 1) (oi := ⟨_, _, _, _, _, _⟩) (v := ?_) rfl (by kernel_rfl) (by kernel_rfl) (by kernel_rfl) (fun _ _ _ h => h) (Or.inl ⟨by rfl, ?_⟩) (by assumption) ?_
    rotate_left 1
    · intro W' hSw
      obtain ⟨hS1, hS2⟩ := hSw
      go_simp
      try with_reducible rfl
    try simp only [Act.put, List.setIfInBounds_toArray, List.set_cons_zero, List.set_cons_succ]
    refine wpAnyH_take (i := 2) (oi := ⟨_, _, _, _, _, _⟩) (v := ?_) rfl (by kernel_rfl) (by kernel_rfl) (by kernel_rfl) (fun _ _ _ h => h) (Or.inl ⟨by rfl, ?_⟩) (by assumption) ?_
    rotate_left 1
    · intro W' hSw
      obtain ⟨hS1, hS2⟩ := hSw
      go_simp
      try with_reducible rfl
    try simp only [Act.put, List.setIfInBounds_toArray, List.set_cons_zero, List.set_cons_succ]
    refine wpAnyH_take (i := 3) (oi := ⟨_, _, _, _, _, _⟩) (v := ?_) rfl (by kernel_rfl) (by kernel_rfl) (by kernel_rfl) (fun _ _ _ h => h) (Or.inl ⟨by rfl, ?_⟩) (by assumption) ?_
    rotate_left 1
    · intro W' hSw
      obtain ⟨hS1, hS2⟩ := hSw
      go_simp
      try with_reducible rfl
    try simp only [Act.put, List.setIfInBounds_toArray, List.set_cons_zero, List.set_cons_succ]
    refine wpAnyH_take (i := 4) (oi := ⟨_, _, _, _, _, _⟩) (v := ?_) rfl (by kernel_rfl) (by kernel_rfl) (by kernel_rfl) (fun _ _ _ h => h) (Or.inl ⟨by rfl, ?_⟩) (by assumption) ?_
    rotate_left 1
    · intro W' hSw
      obtain ⟨hS1, hS2⟩ := hSw
      go_simp
      try with_reducible rfl
    try simp only [Act.put, List.setIfInBounds_toArray, List.set_cons_zero, List.set_cons_succ]
    refine wpAnyH_take (i := 5) (oi := ⟨_, _, _, _, _, _⟩) (v := ?_) rfl (by kernel_rfl) (by kernel_rfl) (by kernel_rfl) (fun _ _ _ h => h) (Or.inl ⟨by rfl, ?_⟩) (by assumption) ?_
    rotate_left 1
    · intro W' hSw
      obtain ⟨hS1, hS2⟩ := hSw
      go_simp
      try with_reducible rfl
    try simp only [Act.put, List.setIfInBounds_toArray, List.set_cons_zero, List.set_cons_succ]
    refine wpAnyH_take (i := 6) (oi := ⟨_, _, _, _, _, _⟩) (v := ?_) rfl (by kernel_rfl) (by kernel_rfl) (by kernel_rfl) (fun _ _ _ h => h) (Or.inl ⟨by rfl, ?_⟩) (by assumption) ?_
    rotate_left 1
    · intro W' hSw
      obtain ⟨hS1, hS2⟩ := hSw
      go_simp
      try with_reducible rfl
    try simp only [Act.put, List.setIfInBounds_toArray, List.set_cons_zero, List.set_cons_succ]
    refine wpAnyH_take (i := 7) (oi := ⟨_, _, _, _, _, _⟩) (v := ?_) rfl (by kernel_rfl) (by kernel_rfl) (by kernel_rfl) (fun _ _ _ h => h) (Or.inl ⟨by rfl, ?_⟩) (by assumption) ?_
    rotate_left 1
    · intro W' hSw
      obtain ⟨hS1, hS2⟩ := hSw
      go_simp
      try with_reducible rfl
    try simp only [Act.put, List.setIfInBounds_toArray, List.set_cons_zero, List.set_cons_succ]
    refine wpAnyH_take (i := 8) (oi := ⟨_, _, _, _, _, _⟩) (v := ?_) rfl (by kernel_rfl) (by kernel_rfl) (by kernel_rfl) (fun _ _ _ h => h) (Or.inl ⟨by rfl, ?_⟩) (by assumption) ?_
    rotate_left 1
    · intro W' hSw
      obtain ⟨hS1, hS2⟩ := hSw
      go_simp
      try with_reducible rfl
    try simp only [Act.put, List.setIfInBounds_toArray, List.set_cons_zero, List.set_cons_succ]
    refine wpAnyH_take (i := 9) (oi := ⟨_, _, _, _, _, _⟩) (v := ?_) rfl (by kernel_rfl) (by kernel_rfl) (by kernel_rfl) (fun _ _ _ h => h) (Or.inl ⟨by rfl, ?_⟩) (by assumption) ?_
    rotate_left 1
    · intro W' hSw
      obtain ⟨hS1, hS2⟩ := hSw
      go_simp
      try with_reducible rfl
    try simp only [Act.put, List.setIfInBounds_toArray, List.set_cons_zero, List.set_cons_succ]
    refine wpAnyH_take (i := 10) (oi := ⟨_, _, _, _, _, _⟩) (v := ?_) rfl (by kernel_rfl) (by kernel_rfl) (by kernel_rfl) (fun _ _ _ h => h) (Or.inl ⟨by rfl, ?_⟩) (by assumption) ?_
    rotate_left 1
    · intro W' hSw
      obtain ⟨hS1, hS2⟩ := hSw
      go_simp
      try with_reducible rfl
    try simp only [Act.put, List.setIfInBounds_toArray, List.set_cons_zero, List.set_cons_succ]
    refine wpAnyH_ready (rs := [11]) (by kernel_rfl) (by simp) ?_
    refine AllReadyH.cons (o := ⟨_, _, _, _, _, _⟩) rfl (fun K hK => ?_) AllReadyH.nil
    go_simp
    refine (ruleOK_any V.drew aP i cP bP P (HPM.out.ext HE.out.drew).2.2.1 hN (fun x hx => (HA.out x hx).2) r ba bn bc bL oL HSV.out L (HLm.out _ HE.out.drew) hbn).mono ?_
    rintro e V2 ⟨rb, rfl, hwf, he⟩
    have HE2 : Hid (Ext W V2) := HE.out.drew.trans he
    have HWf : Hid (rb = true → RuleWf i P r bn L) := hwf
    have g1 : blk V2 bp = some (prgE aP i cP (some ⟨bR, 0, none⟩) M cR S) := (he.blk (blk_lt hb)).trans hb
    have g2 : blk V2 bR = some CR := (he.blk (blk_lt hCR)).trans hCR
    clear he hwf
    dsimp only
    refine hK.out _ _ ?_ (fun hHeld => ?_)
    · exact ⟨g1, g2⟩
    clear hK K
    try simp only [Act.put, List.setIfInBounds_toArray, List.set_cons_zero, List.set_cons_succ]
    refine wpAnyH_take (i := 12) (oi := ⟨_, _, _, _, _, _⟩) (v := ?_) rfl (by kernel_rfl) (by kernel_rfl) (by kernel_rfl) (fun _ _ _ h => h) (Or.inl ⟨by rfl, ?_⟩) (by assumption) ?_
    rotate_left 1
    · intro W' hSw
      obtain ⟨hS1, hS2⟩ := hSw
      go_simp
      try with_reducible rfl
    try simp only [Act.put, List.setIfInBounds_toArray, List.set_cons_zero, List.set_cons_succ]
    refine wpAnyH_done (by kernel_rfl) ?_ _
    cases rb with
    | false =>
      go_wp2_with fail
      go_ret
      exact ⟨false, P, S, rfl, HPM.out.ext HE2.out, rfl, Side.of_extends (ext_Ext HE2.out), fun h => absurd h (by decide), fun _ => rfl, fun h0 => absurd h0 (by omega)⟩
    | true =>
      have HO' : Hid (RulesOk W bp bP i P (R.take (k + 1))) := fun r' hr' => by
        rw [List.take_add_one, HRK.out] at hr'
        rcases List.mem_append.1 hr' with h | h
        · exact HO.out r' h
        · obtain rfl : r' = r := by simpa using h
          exact ⟨ba, bn, bc, bL, oL, L, HSV.out, HL.out.1, HL.out.2.1, HL.out.2.2, HWf.out rfl⟩
      go_wp2_with fail
      refine ⟨rfl, rfl, ⟨rfl, k + 1, by omega, ?_, HE2, HO'⟩, ?_⟩
      · show Value.int .i64 _ = _
        go_num
      · show M - (intOf (Value.int .i64 _)).toNat < M - (intOf (F 4)).toNat
        rw [H4.out]
        simp [intOf]; omega
  · obtain rfl : k = M := by omega
    have HOk : Hid (RulesOk W bp bP i P R) := by
      have h1 := HO.out
      rw [List.take_of_length_le (by rw [HRl.out]; exact Nat.le_refl _)] at h1
      exact h1
    go_wp2_with fail
    refine (stratify_any V bp bP bR aP i cP aR k cR S P R HPV.out HNE.out ((HRm V).out HE.out) HRN.out (fun r hr => ?_) hN hM2).mono ?_
    · obtain ⟨ba, bn, bc, bL, oL, L, h1, h2, h3, h4, h5⟩ := HOk.out r hr
      exact ⟨ba, bn, bc, bL, oL, L, h1, h2.mono (fun h0 => by obtain ⟨_, C, h6, _⟩ := h2.2 h0; exact HE.out.blk (blk_lt h6)), h3, h4, h5⟩
    rintro e V2 ⟨b, P', S', rfl, hM', hK', hS', hb1, hb2, hb3⟩
    have HF : Hid (VerPost bp bP aP i cP aR k cR S P R W (.returned (.bool b)) V2) := ⟨b, P', S', rfl, hM', hK', (Side.of_extends (ext_Ext HE.out)).trans hS', fun h => ⟨hb1 h, hM2, HOk.out⟩, hb2, hb3⟩
    clear hM' hK' hS' hb1 hb2 hb3
    go_wp2_with fail
    go_ret
    exact HF.out
end Go.Proofs.Qxb6500788a
