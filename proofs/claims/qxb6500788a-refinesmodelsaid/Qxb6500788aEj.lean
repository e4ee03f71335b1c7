import Derived.Test.Qxb6500788aPc
import Derived.StillTailTactics
import Derived.Deep.QuietTactic
import Derived.BigQuiet
import Derived.Deep.RegionHeld
import Derived.Deep.CutRange
import Derived.Laws.ResultCell
import Derived.Laws.Rows
import Derived.DeepKeys
import Derived.DataBytes
import Derived.Laws.StructEq
import Derived.Laws.AppendOwn
import Derived.Laws.MakeOwn
set_option linter.unusedSimpArgs false
set_option linter.unusedVariables false
namespace Go.Proofs.Qxb6500788a
open Go.RowKit Go.Blk
attribute [local go_sem ↓] execOp_load execOp_store execOp_alloc
attribute [local go_sem] Try.ld24 Try.st24 Try.ld25 Try.st25 Try.ld3 Try.st3 Try.ld30 Try.st30 Try.ld36 Try.st36 Try.ld4 Try.st4 Try.ld41 Try.st41 Try.ld50 Try.st50 Try.ld40 Try.st40 Try.ld42 Try.st42 Try.ld89 Try.st89 Try.ld91 Try.st91 Try.ld56 Try.st56 Try.ld97 Try.st97 Try.ld98 Try.st98 Try.ld101 Try.st101 Try.ld104 Try.st104 Try.ld57 Try.st57 Try.ld130 Try.st130 Try.ld2 Try.st2 Try.ld5 Try.st5 Try.ld9 Try.st9 Try.ld12 Try.st12 Try.ld21 Try.st21 Try.ld22 Try.st22 Try.ld29 Try.st29 Try.ld33 Try.st33 Try.ld59 Try.st59 Try.ld62 Try.st62 Try.ld69 Try.st69 Try.ld94 Try.st94 Try.ld96 Try.st96 Try.ld129 Try.st129 Try.ld158 Try.st158 Try.ld162 Try.st162 Try.ld47 Try.st47 Try.ld44 Try.st44 Try.ld137 Try.st137 Try.ld145 Try.st145 Try.ld43 Try.st43 Try.ld27 Try.st27 Try.ld38 Try.st38 Try.ld46 Try.st46 Try.ld49 Try.st49 Try.ld52 Try.st52 Try.ld54 Try.st54 Try.ld61 Try.st61 Try.ld80 Try.st80 Try.ld87 Try.st87 Try.ld93 Try.st93 Try.ld100 Try.st100 Try.ld103 Try.st103 Try.ld106 Try.st106 Try.ld109 Try.st109 Try.ld132 Try.st132 Try.ld147 Try.st147 Try.al47 Try.al44 Try.al137 Try.al145 Try.al43 Try.al27 Try.al38 Try.al46 Try.al49 Try.al52 Try.al54 Try.al61 Try.al80 Try.al87 Try.al93 Try.al100 Try.al103 Try.al106 Try.al109 Try.al132 Try.al147
attribute [local go_sem] GProgram.length_enc GProgram.ok_enc GProgram.all_get GProgram.all_set GProgram.preds_get GProgram.preds_set GProgram.rules_get GProgram.rules_set GProgram.strata_get GProgram.strata_set Answer.length_enc Answer.ok_enc Answer.all_get Answer.all_set Answer.code_get Answer.code_set Answer.n_get Answer.n_set Answer.rows_get Answer.rows_set Term.length_enc Term.ok_enc Term.all_get Term.all_set Term.var_get Term.var_set Term.n_get Term.n_set Atom.length_enc Atom.ok_enc Atom.all_get Atom.all_set Atom.pred_get Atom.pred_set Atom.args_get Atom.args_set GRule.length_enc GRule.ok_enc GRule.all_get GRule.all_set GRule.head_get GRule.head_set GRule.body_get GRule.body_set GRule.head_pred_get GRule.head_pred_set GRule.head_args_get GRule.head_args_set GOp.length_enc GOp.ok_enc GOp.all_get GOp.all_set GOp.kind_get GOp.kind_set GOp.pred_get GOp.pred_set GOp.t_get GOp.t_set GOp.n_get GOp.n_set GOp.base_get GOp.base_set GOp.rule_get GOp.rule_set GOp.rule_head_get GOp.rule_head_set GOp.rule_body_get GOp.rule_body_set GOp.rule_head_pred_get GOp.rule_head_pred_set GOp.rule_head_args_get GOp.rule_head_args_set PredInfo.length_enc PredInfo.ok_enc PredInfo.all_get PredInfo.all_set PredInfo.arity_get PredInfo.arity_set PredInfo.base_get PredInfo.base_set PredInfo.stratum_get PredInfo.stratum_set GStats.length_enc GStats.ok_enc GStats.all_get GStats.all_set GStats.rounds_get GStats.rounds_set GStats.fired_get GStats.fired_set GStats.emitted_get GStats.emitted_set GStats.fresh_get GStats.fresh_set Literal.length_enc Literal.ok_enc Literal.all_get Literal.all_set Literal.neg_get Literal.neg_set Literal.atom_get Literal.atom_set Literal.atom_pred_get Literal.atom_pred_set Literal.atom_args_get Literal.atom_args_set Engine.length_enc Engine.ok_enc Engine.all_get Engine.all_set Engine.prog_get Engine.prog_set Engine.st_get Engine.st_set Engine.levels_get Engine.levels_set Engine.running_get Engine.running_set Engine.stratum_get Engine.stratum_set Engine.round_get Engine.round_set Engine.saved_get Engine.saved_set Engine.stats_get Engine.stats_set Engine.prog_preds_get Engine.prog_preds_set Engine.prog_rules_get Engine.prog_rules_set Engine.prog_strata_get Engine.prog_strata_set Engine.stats_rounds_get Engine.stats_rounds_set Engine.stats_fired_get Engine.stats_fired_set Engine.stats_emitted_get Engine.stats_emitted_set Engine.stats_fresh_get Engine.stats_fresh_set Level.length_enc Level.ok_enc Level.all_get Level.all_set Level.heads_get Level.heads_set Level.jobs_get Level.jobs_set Plan.length_enc Plan.ok_enc Plan.all_get Plan.all_set Plan.rule_get Plan.rule_set Plan.delta_get Plan.delta_set Plan.src_get Plan.src_set Job.length_enc Job.ok_enc Job.all_get Job.all_set Job.full_get Job.full_set Job.deltas_get Job.deltas_set Job.full_rule_get Job.full_rule_set Job.full_delta_get Job.full_delta_set Job.full_src_get Job.full_src_set GState.length_enc GState.ok_enc GState.all_get GState.all_set GState.prog_get GState.prog_set GState.base_get GState.base_set GState.shown_get GState.shown_set GState.prog_preds_get GState.prog_preds_set GState.prog_rules_get GState.prog_rules_set GState.prog_strata_get GState.prog_strata_set Store.length_enc Store.ok_enc Store.all_get Store.all_set Store.arity_get Store.arity_set Store.rows_get Store.rows_set Env.length_enc Env.ok_enc Env.all_get Env.all_set Env.val_get Env.val_set Env.set_get Env.set_set
attribute [local go_sem] size_put size_ext blk_put free_put blk_alloc free_alloc blk_drew free_drew blk_ext free_ext lookOr_some putOr_some segAt_some cellAt_some storeIn_some put_put put_alloc_new length_arr ok_arr_u8 ok_arr_u32 ok_arr_u64 ok_arr_i64 ok_arr_sl cellsV_agg cellsV_int cellsV_bool cellsV_string cellsV_pointer cellsV_slice cellsV_sl ok_int ok_bool ok_string ok_pointer ok_slice ok_sl toList_arr seg_arr set_arr nth_splice nth_splice0 seg_splice seg_splice0 splice_splice splice_splice0 length_splice_if
attribute [local go_sem ↓] execOp_box
attribute [local go_sem] box_run nth_arr_u8 put_arr_u8 blk_drewN free_drewN put_drewN blk_raw free_raw
def RunPost (B : Nat) (O : Own) (W : World) (g be : Nat) (p : Pg) (S : List (List Tup)) (e : Ending) (W' : World) : Prop :=
  ∃ r, RunsTo p 0 0 (begS p S p.P.length, ⟨0, 0, 0, 0⟩) r ∧ ∃ (x' : Engine) (sav' : List (List Tup)), x'.running = false ∧ x'.stratum = 0 ∧
    match r with
    | none => e = .returned (.int .i64 3) ∧ EOut B O W g be p x' S sav' W'
    | some σ => e = .returned (.int .i64 0) ∧ EOut B O W g be p x' σ.1 sav' W'
def RunI (B : Nat) (O : Own) (W : World) (g be : Nat) (p : Pg) (S sav : List (List Tup)) (n : Nat) (V : World) : Prop :=
  ∃ O', Fr (isE g) O W O' V ∧ ∃ (x' : Engine) (s rn : Nat) (σ : StQ), EAt B O' V g be p x' σ.1 (begV p S sav p.P.length) ∧ x'.running = true ∧ x'.stratum = (s : Int) ∧ x'.round = (rn : Int) ∧ x'.stats = σ.2 ∧ s < p.St ∧ NxE p σ.1 ∧ rn ≤ tot σ.1 p.P.length ∧ BaseEq p (begS p S p.P.length) σ.1 ∧ (∀ r, RunsTo p s rn σ r → RunsTo p 0 0 (begS p S p.P.length, ⟨0, 0, 0, 0⟩) r) ∧ n = (p.St - s) + (32768 - tot σ.1 p.P.length)
def ruI (B : Nat) (O : Own) (W : World) (g be : Nat) (p : Pg) (S sav : List (List Tup)) (n : Nat) (f : Nat → Value) (V : World) : Prop := f 0 = .pointer (some ⟨be, 0, none⟩) ∧ Hid (RunI B O W g be p S sav n V)
theorem tot_cap {p : Pg} (hok : PgOk p) {S : List (List Tup)} (h : SOk S) : tot S p.P.length ≤ 32768 := by
  have h1 := tot_le h p.P.length
  have h2 := hok.nP
  omega
set_option maxRecDepth 100000 in
theorem frame21 (f : Nat → Value) : frameN 21 f = #[f 0, f 1, f 2, f 3, f 4, f 5, f 6, f 7, f 8, f 9, f 10, f 11, f 12, f 13, f 14, f 15, f 16, f 17, f 18, f 19, f 20] := by kernel_rfl
set_option maxRecDepth 40000 in
set_option maxHeartbeats 8000000 in
theorem runE_any (B : Nat) (O : Own) (W : World) (g be : Nat) (p : Pg) (x : Engine) (S sav : List (List Tup)) (hE : EAt B O W g be p x S sav) (hok : PgOk p) (hrun : x.running = false) (hid : Idle p S) :
    Calls Try.prog 36 #[.pointer (some ⟨be, 0, none⟩)] W (RunPost B O W g be p S) := by
  obtain ⟨Q, hQ⟩ : ∃ Q, Q = RunPost B O W g be p S := ⟨_, rfl⟩
  rw [← hQ]
  have HQ := hid_of hQ
  have hsl := (eat_svl hE).2
  have hbg : Calls Try.prog 18 #[.pointer (some ⟨be, 0, none⟩)] W fun e W' => e = .returned (.int .i64 0) ∧ EOut B O W g be p (xB x) (begS p S p.P.length) (begV p S sav p.P.length) W' := (begin_any B O W g be p x S sav hE hok hid.1.1 hid.1.2.1).mono (fun e W' h => by
    rw [if_neg (by rw [hrun]; decide)] at h
    exact h)
  have HBG := hid_of hbg
  have HOK := hid_of hok
  have HID := hid_of hid
  have HSL := hid_of hsl
  clear hE hQ hok hid hbg hrun hsl
  go_enter Try.func36, Try.ntmps36
  go_wp2_with fail
  refine HBG.out.mono ?_
  rintro e V1 ⟨rfl, O1, hF1, hE1⟩
  have HI0 : Hid (RunI B O W g be p S sav ((p.St - 0) + (32768 - tot (begS p S p.P.length) p.P.length)) V1) := by
    have h1 := HOK.out.s1
    exact ⟨O1, hF1, xB x, 0, 0, (begS p S p.P.length, ⟨0, 0, 0, 0⟩), hE1, rfl, rfl, rfl, rfl, by omega, HID.out.beg, Nat.zero_le _, BaseEq.refl _ _, fun r h => h, rfl⟩
  clear HBG hF1 hE1
  dsimp only
  go_upto_region 4 with fail
  refine wp_loop_ix 21 (ruI B O W g be p S sav) _ rfl ⟨rfl, HI0⟩ ?_
  clear HI0
  intro n f V hrel μ hμ
  obtain ⟨f0, HI⟩ := hrel
  rw [frame21, f0]
  clear f0
  obtain ⟨O2, hFr, x', s, rn, σ, hE, hxr, hxs, hxn, hxq, hs, hNx, hrt, hbe, hrt2, hn⟩ := HI.out
  have hcap := tot_cap HOK.out hNx.2.1
  have hro := round_any B O2 V g be p x' σ.1 (begV p S sav p.P.length) hE HOK.out hxr s rn hxs hs hxn (by omega) (hNx.rd s) (fun i hi hb => by
    rw [begV_rows HSL.out hb _ (Nat.le_refl _) hi]
    have := HID.out.1.2.1.at (3 * i)
    exact ⟨this.2.1, this.1⟩)
  have HRO := hid_of hro
  have HFR := hid_of hFr
  have HNX := hid_of hNx
  have HBE := hid_of hbe
  have HRT := hid_of hrt2
  have HXQ := hid_of hxq
  have HXR := hid_of hxr
  have HXS := hid_of hxs
  clear HI hE hro hFr hNx hbe hrt2 hxq hxr hxs hxn
  go_wp2_with fail
  refine HRO.out.mono ?_
  intro e V3 hrp
  unfold RoundPost at hrp
  rw [HXQ.out] at hrp
  have hst : (σ.1, σ.2) = σ := rfl
  rw [hst] at hrp
  clear HRO
  cases hj : jobsO p s rn σ with
  | none =>
    rw [hj] at hrp
    obtain ⟨rfl, S'', q, sav', hb2, hO⟩ := hrp
    have HP : Hid (Q (.returned (.int .i64 3)) V3) := by
      show Q _ _
      rw [HQ.out]
      refine ⟨none, HRT.out _ (.over hj), { x' with running := false, stratum := 0, stats := q }, sav', rfl, rfl, rfl, ?_⟩
      rw [res_beg HID.out HSL.out (HBE.out.trans hb2)] at hO
      obtain ⟨O3, hF3, hE3⟩ := hO
      exact ⟨O3, HFR.out.trans hF3, hE3⟩
    clear hO HFR hb2
    dsimp only
    go_wp2_with fail
    try go_ret
    exact HP.out
  | some σ' =>
    rw [hj] at hrp
    have htr := tot_round HOK.out HNX.out hj
    have hnx := HNX.out.round HOK.out hj
    have hbr := round_base HOK.out HNX.out hj
    have hcap2 := tot_cap HOK.out hnx.2.1
    by_cases ha : anyN σ'.1 (headsOf p s) = true
    · have hrp' : e = .returned (.tuple #[.int .i64 1, .int .i64 0]) ∧ EOut B O2 V g be p { x' with round := ((rn + 1 : Nat) : Int), stats := qR σ'.2 } (promL σ'.1 (headsOf p s)) (begV p S sav p.P.length) V3 := by
        have h1 := hrp
        simp only [] at h1
        rw [if_pos ha] at h1
        exact h1
      obtain ⟨rfl, O3, hF3, hE3⟩ := hrp'
      have htl := htr.2 ha
      have HI' : Hid (RunI B O W g be p S sav ((p.St - s) + (32768 - tot (promL σ'.1 (headsOf p s)) p.P.length)) V3) := ⟨O3, HFR.out.trans hF3, _, s, rn + 1, (promL σ'.1 (headsOf p s), qR σ'.2), hE3, HXR.out, HXS.out, rfl, rfl, hs, hnx, by show rn + 1 ≤ tot (promL σ'.1 (headsOf p s)) p.P.length; omega, HBE.out.trans hbr, fun r h => HRT.out r (.more hj ha h), rfl⟩
      have hlt : (p.St - s) + (32768 - tot (promL σ'.1 (headsOf p s)) p.P.length) < n := by omega
      clear hrp hF3 hE3 hnx hbr htr
      dsimp only
      go_wp2_with fail
      exact ⟨rfl, rfl, ⟨_, rfl, HI'⟩, hμ.out _ _ _ ⟨rfl, HI'⟩ hlt⟩
    · have ha' : anyN σ'.1 (headsOf p s) = false := by simpa using ha
      by_cases hn2 : s + 1 < p.St
      · have hrp' : e = .returned (.tuple #[.int .i64 2, .int .i64 0]) ∧ EOut B O2 V g be p { x' with stratum := ((s + 1 : Nat) : Int), round := 0, stats := qR σ'.2 } (promL σ'.1 (headsOf p s)) (begV p S sav p.P.length) V3 := by
          have h1 := hrp
          simp only [] at h1
          rw [if_neg ha, if_pos hn2] at h1
          exact h1
        obtain ⟨rfl, O3, hF3, hE3⟩ := hrp'
        have htl := htr.1
        have HI' : Hid (RunI B O W g be p S sav ((p.St - (s + 1)) + (32768 - tot (promL σ'.1 (headsOf p s)) p.P.length)) V3) := ⟨O3, HFR.out.trans hF3, _, s + 1, 0, (promL σ'.1 (headsOf p s), qR σ'.2), hE3, HXR.out, rfl, rfl, rfl, hn2, hnx, Nat.zero_le _, HBE.out.trans hbr, fun r h => HRT.out r (.next hj ha' hn2 h), rfl⟩
        have hlt : (p.St - (s + 1)) + (32768 - tot (promL σ'.1 (headsOf p s)) p.P.length) < n := by omega
        clear hrp hF3 hE3 hnx hbr htr
        dsimp only
        go_wp2_with fail
        exact ⟨rfl, rfl, ⟨_, rfl, HI'⟩, hμ.out _ _ _ ⟨rfl, HI'⟩ hlt⟩
      · have hrp' : e = .returned (.tuple #[.int .i64 3, .int .i64 0]) ∧ ∃ sav', EOut B O2 V g be p { x' with running := false, stratum := 0, round := 0, stats := qR σ'.2 } (promL σ'.1 (headsOf p s)) sav' V3 := by
          have h1 := hrp
          simp only [] at h1
          rw [if_neg ha, if_neg hn2] at h1
          exact h1
        obtain ⟨rfl, sav', O3, hF3, hE3⟩ := hrp'
        have HP : Hid (Q (.returned (.int .i64 0)) V3) := by
          show Q _ _
          rw [HQ.out]
          exact ⟨some _, HRT.out _ (.done hj ha' hn2), { x' with running := false, stratum := 0, round := 0, stats := qR σ'.2 }, sav', rfl, rfl, rfl, O3, HFR.out.trans hF3, hE3⟩
        clear hrp hF3 hE3 hnx hbr htr HFR
        dsimp only
        go_wp2_with fail
        try go_ret
        exact HP.out
end Go.Proofs.Qxb6500788a
