import Derived.Test.Qxb6500788aJm
import Derived.StillTailTactics
import Derived.Deep.QuietTactic
import Derived.BigQuiet
import Derived.Deep.RegionHeld
import Derived.Deep.CutRange
import Derived.Laws.ResultCell
import Derived.Laws.Rows
import Derived.DeepKeys
import Derived.DataBytes
import Derived.Laws.StructEq
import Derived.Laws.AppendOwn
import Derived.Laws.MakeOwn
set_option linter.unusedSimpArgs false
set_option linter.unusedVariables false
namespace Go.Proofs.Qxb6500788a
open Go.RowKit Go.Blk
attribute [local go_sem ↓] execOp_load execOp_store execOp_alloc
attribute [local go_sem] Try.ld24 Try.st24 Try.ld25 Try.st25 Try.ld3 Try.st3 Try.ld30 Try.st30 Try.ld36 Try.st36 Try.ld4 Try.st4 Try.ld41 Try.st41 Try.ld50 Try.st50 Try.ld40 Try.st40 Try.ld42 Try.st42 Try.ld89 Try.st89 Try.ld91 Try.st91 Try.ld56 Try.st56 Try.ld97 Try.st97 Try.ld98 Try.st98 Try.ld101 Try.st101 Try.ld104 Try.st104 Try.ld57 Try.st57 Try.ld130 Try.st130 Try.ld2 Try.st2 Try.ld5 Try.st5 Try.ld9 Try.st9 Try.ld12 Try.st12 Try.ld21 Try.st21 Try.ld22 Try.st22 Try.ld29 Try.st29 Try.ld33 Try.st33 Try.ld59 Try.st59 Try.ld62 Try.st62 Try.ld69 Try.st69 Try.ld94 Try.st94 Try.ld96 Try.st96 Try.ld129 Try.st129 Try.ld158 Try.st158 Try.ld162 Try.st162 Try.ld47 Try.st47 Try.ld44 Try.st44 Try.ld137 Try.st137 Try.ld145 Try.st145 Try.ld43 Try.st43 Try.ld27 Try.st27 Try.ld38 Try.st38 Try.ld46 Try.st46 Try.ld49 Try.st49 Try.ld52 Try.st52 Try.ld54 Try.st54 Try.ld61 Try.st61 Try.ld80 Try.st80 Try.ld87 Try.st87 Try.ld93 Try.st93 Try.ld100 Try.st100 Try.ld103 Try.st103 Try.ld106 Try.st106 Try.ld109 Try.st109 Try.ld132 Try.st132 Try.ld147 Try.st147 Try.al47 Try.al44 Try.al137 Try.al145 Try.al43 Try.al27 Try.al38 Try.al46 Try.al49 Try.al52 Try.al54 Try.al61 Try.al80 Try.al87 Try.al93 Try.al100 Try.al103 Try.al106 Try.al109 Try.al132 Try.al147
attribute [local go_sem] GProgram.length_enc GProgram.ok_enc GProgram.all_get GProgram.all_set GProgram.preds_get GProgram.preds_set GProgram.rules_get GProgram.rules_set GProgram.strata_get GProgram.strata_set Answer.length_enc Answer.ok_enc Answer.all_get Answer.all_set Answer.code_get Answer.code_set Answer.n_get Answer.n_set Answer.rows_get Answer.rows_set Term.length_enc Term.ok_enc Term.all_get Term.all_set Term.var_get Term.var_set Term.n_get Term.n_set Atom.length_enc Atom.ok_enc Atom.all_get Atom.all_set Atom.pred_get Atom.pred_set Atom.args_get Atom.args_set GRule.length_enc GRule.ok_enc GRule.all_get GRule.all_set GRule.head_get GRule.head_set GRule.body_get GRule.body_set GRule.head_pred_get GRule.head_pred_set GRule.head_args_get GRule.head_args_set GOp.length_enc GOp.ok_enc GOp.all_get GOp.all_set GOp.kind_get GOp.kind_set GOp.pred_get GOp.pred_set GOp.t_get GOp.t_set GOp.n_get GOp.n_set GOp.base_get GOp.base_set GOp.rule_get GOp.rule_set GOp.rule_head_get GOp.rule_head_set GOp.rule_body_get GOp.rule_body_set GOp.rule_head_pred_get GOp.rule_head_pred_set GOp.rule_head_args_get GOp.rule_head_args_set PredInfo.length_enc PredInfo.ok_enc PredInfo.all_get PredInfo.all_set PredInfo.arity_get PredInfo.arity_set PredInfo.base_get PredInfo.base_set PredInfo.stratum_get PredInfo.stratum_set GStats.length_enc GStats.ok_enc GStats.all_get GStats.all_set GStats.rounds_get GStats.rounds_set GStats.fired_get GStats.fired_set GStats.emitted_get GStats.emitted_set GStats.fresh_get GStats.fresh_set Literal.length_enc Literal.ok_enc Literal.all_get Literal.all_set Literal.neg_get Literal.neg_set Literal.atom_get Literal.atom_set Literal.atom_pred_get Literal.atom_pred_set Literal.atom_args_get Literal.atom_args_set Engine.length_enc Engine.ok_enc Engine.all_get Engine.all_set Engine.prog_get Engine.prog_set Engine.st_get Engine.st_set Engine.levels_get Engine.levels_set Engine.running_get Engine.running_set Engine.stratum_get Engine.stratum_set Engine.round_get Engine.round_set Engine.saved_get Engine.saved_set Engine.stats_get Engine.stats_set Engine.prog_preds_get Engine.prog_preds_set Engine.prog_rules_get Engine.prog_rules_set Engine.prog_strata_get Engine.prog_strata_set Engine.stats_rounds_get Engine.stats_rounds_set Engine.stats_fired_get Engine.stats_fired_set Engine.stats_emitted_get Engine.stats_emitted_set Engine.stats_fresh_get Engine.stats_fresh_set Level.length_enc Level.ok_enc Level.all_get Level.all_set Level.heads_get Level.heads_set Level.jobs_get Level.jobs_set Plan.length_enc Plan.ok_enc Plan.all_get Plan.all_set Plan.rule_get Plan.rule_set Plan.delta_get Plan.delta_set Plan.src_get Plan.src_set Job.length_enc Job.ok_enc Job.all_get Job.all_set Job.full_get Job.full_set Job.deltas_get Job.deltas_set Job.full_rule_get Job.full_rule_set Job.full_delta_get Job.full_delta_set Job.full_src_get Job.full_src_set GState.length_enc GState.ok_enc GState.all_get GState.all_set GState.prog_get GState.prog_set GState.base_get GState.base_set GState.shown_get GState.shown_set GState.prog_preds_get GState.prog_preds_set GState.prog_rules_get GState.prog_rules_set GState.prog_strata_get GState.prog_strata_set Store.length_enc Store.ok_enc Store.all_get Store.all_set Store.arity_get Store.arity_set Store.rows_get Store.rows_set Env.length_enc Env.ok_enc Env.all_get Env.all_set Env.val_get Env.val_set Env.set_get Env.set_set
attribute [local go_sem] size_put size_ext blk_put free_put blk_alloc free_alloc blk_drew free_drew blk_ext free_ext lookOr_some putOr_some segAt_some cellAt_some storeIn_some put_put put_alloc_new length_arr ok_arr_u8 ok_arr_u32 ok_arr_u64 ok_arr_i64 ok_arr_sl cellsV_agg cellsV_int cellsV_bool cellsV_string cellsV_pointer cellsV_slice cellsV_sl ok_int ok_bool ok_string ok_pointer ok_slice ok_sl toList_arr seg_arr set_arr nth_splice nth_splice0 seg_splice seg_splice0 splice_splice splice_splice0 length_splice_if
attribute [local go_sem ↓] execOp_box
attribute [local go_sem] box_run nth_arr_u8 put_arr_u8 blk_drewN free_drewN put_drewN blk_raw free_raw
/-- A state's full relations hold what T holds. -/
def Mt (p : Pg) (S : List (List Tup)) (T : Nat → List Tup) : Prop := ∀ q, q < p.P.length → ∀ t, t ∈ rowsAt S (3 * q) ↔ t ∈ T q
theorem Mt.con {p : Pg} (hok : PgOk p) {S : List (List Tup)} {T : Nat → List Tup} (h : Mt p S T) {s k : Nat} (hk : k ∈ jobsOf p s) (t : Tup) : Con p k (fulS S) t ↔ Con p k (relF T) t :=
  con_same hok hk (fun q hq _ t => h q hq t)
theorem Mt.len {p : Pg} {S : List (List Tup)} {T : Nat → List Tup} (h : Mt p S T) (hS : SOk S) (hT : RelI p T) {q : Nat} (hq : q < p.P.length) : (rowsAt S (3 * q)).length = (T q).length :=
  (perm_of (hS.at (3 * q)).2.1 (hT q hq).1 (h q hq)).length_eq
theorem Mt.novr {p : Pg} {S : List (List Tup)} {T : Nat → List Tup} (h : Mt p S T) (hS : SOk S) (hT : RelI p T) : ¬ OvrT p.P.length T := fun ⟨q, hq, hl⟩ => by
  have h1 := h.len hS hT hq
  have h2 := (hS.at (3 * q)).1
  omega
/-- The engine's round and the naive round. -/
theorem lock_some {p : Pg} (hok : PgOk p) {s rn : Nat} {σ σ' : StQ} (hR : RInv p s rn σ.1) (h : jobsO p s rn σ = some σ') {T T1 : Nat → List Tup} (hT : RelI p T) (hM : Mt p σ.1 T) (hN : NR p s T T1) : Mt p (promL σ'.1 (headsOf p s)) T1 ∧ ¬ OvrT p.P.length T1 ∧ (anyN σ'.1 (headsOf p s) = true ↔ ¬ cntT T1 p.P.length = cntT T p.P.length) := by
  obtain ⟨b1, a1, a2, -⟩ := round_law hok hR h
  have hM1 : Mt p (promL σ'.1 (headsOf p s)) T1 := fun q hq t => by
    rw [a1 q t hq, (hN q hq).2 t, hM q hq t]
    refine or_congr Iff.rfl ⟨fun ⟨k, hk, e, hc⟩ => ⟨k, hk, e, (hM.con hok hk t).1 hc⟩, fun ⟨k, hk, e, hc⟩ => ⟨k, hk, e, (hM.con hok hk t).2 hc⟩⟩
  refine ⟨hM1, hM1.novr b1.1.2.1 hN.relI, ?_⟩
  rw [cntT_eq _ (hN.len hT), a2]
  constructor
  · rintro ⟨q, t, hn⟩ hall
    have hc := (new_con hok hR q t).1 hn
    obtain ⟨hnm, k, hk, hkq, hcn⟩ := hc
    have hq : q < p.P.length := hkq ▸ (jobs_own hok hk).1
    have h1 : (t :: T q).Nodup := List.nodup_cons.2 ⟨fun h => hnm ((hM q hq t).2 h), (hT q hq).1⟩
    have h2 := nodup_sub_len h1 (M := T1 q) (fun u hu => by
      rcases List.mem_cons.1 hu with rfl | hu
      · exact ((hN q hq).2 u).2 (.inr ⟨k, hk, hkq, (hM.con hok hk u).1 hcn⟩)
      · exact ((hN q hq).2 u).2 (.inl hu))
    have h3 := hall q hq
    rw [List.length_cons] at h2
    omega
  · intro hall
    refine Classical.byContradiction fun hno => hall fun q hq => ?_
    refine Nat.le_antisymm (hN.len hT q hq) (nodup_sub_len (hN q hq).1.1 (fun t ht => ?_))
    rcases ((hN q hq).2 t).1 ht with h1 | ⟨k, hk, hkq, hc⟩
    · exact h1
    · refine Classical.byContradiction fun hnm => hno ⟨q, t, (new_con hok hR q t).2 ⟨fun h => hnm ((hM q hq t).1 h), k, hk, hkq, (hM.con hok hk t).2 hc⟩⟩
theorem lock_none {p : Pg} (hok : PgOk p) {s rn : Nat} {σ : StQ} (hR : RInv p s rn σ.1) (h : jobsO p s rn σ = none) {T T1 : Nat → List Tup} (hT : RelI p T) (hM : Mt p σ.1 T) (hN : NR p s T T1) : OvrT p.P.length T1 := by
  obtain ⟨q, hq, N, hnd, hlt, hnew⟩ := jobs_over hok hR.1 hR.2.1 h
  refine ⟨q, hq, ?_⟩
  have h1 : (rowsAt σ.1 (3 * q) ++ N).Nodup := by
    rw [List.nodup_append]
    refine ⟨(hR.1.2.1.at (3 * q)).2.1, hnd, fun a ha b hb e => ?_⟩
    subst e
    exact (hnew a hb).1 ha
  have h2 := nodup_sub_len h1 (M := T1 q) (fun u hu => by
    rcases List.mem_append.1 hu with hu | hu
    · exact ((hN q hq).2 u).2 (.inl ((hM q hq u).1 hu))
    · obtain ⟨_, k, hk, hkq, hc⟩ := (new_con hok hR q u).1 (hnew u hu)
      exact ((hN q hq).2 u).2 (.inr ⟨k, hk, hkq, (hM.con hok hk u).1 hc⟩))
  rw [List.length_append] at h2
  omega
/-- The perfect model, stratum by stratum. -/
inductive PerfTo (p : Pg) : Nat → (Nat → List Tup) → (Nat → List Tup) → Prop
  | stop {s : Nat} {T : Nat → List Tup} : ¬ s < p.St ∨ OvrT p.P.length T → PerfTo p s T T
  | step {s : Nat} {T T1 T2 : Nat → List Tup} : s < p.St → ¬ OvrT p.P.length T → FixTo p s T T1 → PerfTo p (s + 1) T1 T2 → PerfTo p s T T2
theorem FixTo.relI {p : Pg} {s : Nat} {T T1 : Nat → List Tup} (h : FixTo p s T T1) : RelI p T1 := by
  induction h with
  | stop h _ => exact h.relI
  | more _ _ _ _ ih => exact ih
theorem PerfTo.relI {p : Pg} {s : Nat} {T T1 : Nat → List Tup} (h : PerfTo p s T T1) (hT : RelI p T) : RelI p T1 := by
  induction h with
  | stop _ => exact hT
  | step _ _ hf _ ih => exact ih hf.relI
theorem runs_perf {p : Pg} (hok : PgOk p) {s rn : Nat} {σ : StQ} {r : Option StQ} (h : RunsTo p s rn σ r) : ∀ {T T2 T3 : Nat → List Tup}, s < p.St → RInv p s rn σ.1 → RelI p T → Mt p σ.1 T → FixTo p s T T2 → PerfTo p (s + 1) T2 T3 → (r = none ∧ OvrT p.P.length T3) ∨ ∃ τ, r = some τ ∧ Mt p τ.1 T3 ∧ ¬ OvrT p.P.length T3 := by
  induction h with
  | @over s rn σ hj =>
    intro T T2 T3 hs hR hT hM hF hP
    refine .inl ⟨rfl, ?_⟩
    cases hF with
    | stop hN _ =>
      have ho := lock_none hok hR hj hT hM hN
      cases hP with
      | stop _ => exact ho
      | step _ hno _ _ => exact absurd ho hno
    | more hN _ hno _ => exact absurd (lock_none hok hR hj hT hM hN) hno
  | @more s rn σ σ' r hj ha _ ih =>
    intro T T2 T3 hs hR hT hM hF hP
    cases hF with
    | stop hN hc =>
      obtain ⟨_, h2, h3⟩ := lock_some hok hR hj hT hM hN
      rcases hc with hc | hc
      · exact absurd hc (h3.1 ha)
      · exact absurd hc h2
    | more hN _ _ hF' =>
      obtain ⟨h1, h2, h3⟩ := lock_some hok hR hj hT hM hN
      exact ih hs (round_law hok hR hj).1 hN.relI h1 hF' hP
  | @next s rn σ σ' r hj ha hlt _ ih =>
    intro T T2 T3 hs hR hT hM hF hP
    cases hF with
    | stop hN hc =>
      obtain ⟨h1, h2, h3⟩ := lock_some hok hR hj hT hM hN
      cases hP with
      | stop hx =>
        rcases hx with hx | hx
        · exact absurd hlt hx
        · exact absurd hx h2
      | step _ _ hF' hP' => exact ih hlt (round_law hok hR hj).1.next hN.relI h1 hF' hP'
    | more hN hne _ _ =>
      obtain ⟨h1, h2, h3⟩ := lock_some hok hR hj hT hM hN
      rw [h3.2 hne] at ha; cases ha
  | @done s rn σ σ' hj ha hlt =>
    intro T T2 T3 hs hR hT hM hF hP
    cases hF with
    | stop hN hc =>
      obtain ⟨h1, h2, h3⟩ := lock_some hok hR hj hT hM hN
      cases hP with
      | stop _ => exact .inr ⟨_, rfl, h1, h2⟩
      | step hs' _ _ _ => exact absurd hs' hlt
    | more hN hne _ _ =>
      obtain ⟨h1, h2, h3⟩ := lock_some hok hR hj hT hM hN
      rw [h3.2 hne] at ha; cases ha
/-- The base facts of a state. -/
def basT (p : Pg) (S : List (List Tup)) : Nat → List Tup := fun q => if basP p q = true then rowsAt S (3 * q) else []
theorem basT_relI {p : Pg} {S : List (List Tup)} (h : EngI p S) : RelI p (basT p S) := fun q hq => by
  unfold basT
  split
  · exact allT_relI h q hq
  · exact outOk_nil
theorem run_perf {p : Pg} (hok : PgOk p) {S : List (List Tup)} (hS : EngI p S) {T T3 : Nat → List Tup} (hT : RelI p T) (hM : ∀ q, q < p.P.length → ∀ t, t ∈ basT p S q ↔ t ∈ T q) {r : Option StQ} (h : RunsTo p 0 0 (begS p S p.P.length, ⟨0, 0, 0, 0⟩) r) (hP : PerfTo p 0 T T3) : (r = none ∧ OvrT p.P.length T3) ∨ ∃ τ, r = some τ ∧ Mt p τ.1 T3 ∧ ¬ OvrT p.P.length T3 := by
  have hM0 : Mt p (begS p S p.P.length) T := fun q hq t => by
    rw [← hM q hq t, begS_rows hS.1.1.1 (r := 3 * q) (q := q) (j := 0) rfl (by omega) _ (Nat.le_refl _)]
    unfold basT
    cases hb : basP p q with
    | true => rw [if_neg (fun h => by cases h.2.2), if_pos rfl]
    | false => rw [if_pos ⟨hq, rfl, rfl⟩, if_neg (by intro h; cases h)]
  have hn : ¬ OvrT p.P.length T := hM0.novr hS.beg.1.1.2.1 hT
  have hs := hok.s1
  cases hP with
  | stop hx =>
    rcases hx with hx | hx
    · omega
    · exact absurd hx hn
  | step _ _ hF hP' => exact runs_perf hok h (by omega) hS.beg.1 hT hM0 hF hP'
end Go.Proofs.Qxb6500788a
