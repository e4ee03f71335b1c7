import Derived.Test.Qxb6500788aEi
import Derived.StillTailTactics
import Derived.Deep.QuietTactic
import Derived.BigQuiet
import Derived.Deep.RegionHeld
import Derived.Deep.CutRange
import Derived.Laws.ResultCell
import Derived.Laws.Rows
import Derived.DeepKeys
import Derived.DataBytes
import Derived.Laws.StructEq
import Derived.Laws.AppendOwn
import Derived.Laws.MakeOwn
set_option linter.unusedSimpArgs false
set_option linter.unusedVariables false
namespace Go.Proofs.Qxb6500788a
open Go.RowKit Go.Blk
attribute [local go_sem ↓] execOp_load execOp_store execOp_alloc
attribute [local go_sem] Try.ld24 Try.st24 Try.ld25 Try.st25 Try.ld3 Try.st3 Try.ld30 Try.st30 Try.ld36 Try.st36 Try.ld4 Try.st4 Try.ld41 Try.st41 Try.ld50 Try.st50 Try.ld40 Try.st40 Try.ld42 Try.st42 Try.ld89 Try.st89 Try.ld91 Try.st91 Try.ld56 Try.st56 Try.ld97 Try.st97 Try.ld98 Try.st98 Try.ld101 Try.st101 Try.ld104 Try.st104 Try.ld57 Try.st57 Try.ld130 Try.st130 Try.ld2 Try.st2 Try.ld5 Try.st5 Try.ld9 Try.st9 Try.ld12 Try.st12 Try.ld21 Try.st21 Try.ld22 Try.st22 Try.ld29 Try.st29 Try.ld33 Try.st33 Try.ld59 Try.st59 Try.ld62 Try.st62 Try.ld69 Try.st69 Try.ld94 Try.st94 Try.ld96 Try.st96 Try.ld129 Try.st129 Try.ld158 Try.st158 Try.ld162 Try.st162 Try.ld47 Try.st47 Try.ld44 Try.st44 Try.ld137 Try.st137 Try.ld145 Try.st145 Try.ld43 Try.st43 Try.ld27 Try.st27 Try.ld38 Try.st38 Try.ld46 Try.st46 Try.ld49 Try.st49 Try.ld52 Try.st52 Try.ld54 Try.st54 Try.ld61 Try.st61 Try.ld80 Try.st80 Try.ld87 Try.st87 Try.ld93 Try.st93 Try.ld100 Try.st100 Try.ld103 Try.st103 Try.ld106 Try.st106 Try.ld109 Try.st109 Try.ld132 Try.st132 Try.ld147 Try.st147 Try.al47 Try.al44 Try.al137 Try.al145 Try.al43 Try.al27 Try.al38 Try.al46 Try.al49 Try.al52 Try.al54 Try.al61 Try.al80 Try.al87 Try.al93 Try.al100 Try.al103 Try.al106 Try.al109 Try.al132 Try.al147
attribute [local go_sem] GProgram.length_enc GProgram.ok_enc GProgram.all_get GProgram.all_set GProgram.preds_get GProgram.preds_set GProgram.rules_get GProgram.rules_set GProgram.strata_get GProgram.strata_set Answer.length_enc Answer.ok_enc Answer.all_get Answer.all_set Answer.code_get Answer.code_set Answer.n_get Answer.n_set Answer.rows_get Answer.rows_set Term.length_enc Term.ok_enc Term.all_get Term.all_set Term.var_get Term.var_set Term.n_get Term.n_set Atom.length_enc Atom.ok_enc Atom.all_get Atom.all_set Atom.pred_get Atom.pred_set Atom.args_get Atom.args_set GRule.length_enc GRule.ok_enc GRule.all_get GRule.all_set GRule.head_get GRule.head_set GRule.body_get GRule.body_set GRule.head_pred_get GRule.head_pred_set GRule.head_args_get GRule.head_args_set GOp.length_enc GOp.ok_enc GOp.all_get GOp.all_set GOp.kind_get GOp.kind_set GOp.pred_get GOp.pred_set GOp.t_get GOp.t_set GOp.n_get GOp.n_set GOp.base_get GOp.base_set GOp.rule_get GOp.rule_set GOp.rule_head_get GOp.rule_head_set GOp.rule_body_get GOp.rule_body_set GOp.rule_head_pred_get GOp.rule_head_pred_set GOp.rule_head_args_get GOp.rule_head_args_set PredInfo.length_enc PredInfo.ok_enc PredInfo.all_get PredInfo.all_set PredInfo.arity_get PredInfo.arity_set PredInfo.base_get PredInfo.base_set PredInfo.stratum_get PredInfo.stratum_set GStats.length_enc GStats.ok_enc GStats.all_get GStats.all_set GStats.rounds_get GStats.rounds_set GStats.fired_get GStats.fired_set GStats.emitted_get GStats.emitted_set GStats.fresh_get GStats.fresh_set Literal.length_enc Literal.ok_enc Literal.all_get Literal.all_set Literal.neg_get Literal.neg_set Literal.atom_get Literal.atom_set Literal.atom_pred_get Literal.atom_pred_set Literal.atom_args_get Literal.atom_args_set Engine.length_enc Engine.ok_enc Engine.all_get Engine.all_set Engine.prog_get Engine.prog_set Engine.st_get Engine.st_set Engine.levels_get Engine.levels_set Engine.running_get Engine.running_set Engine.stratum_get Engine.stratum_set Engine.round_get Engine.round_set Engine.saved_get Engine.saved_set Engine.stats_get Engine.stats_set Engine.prog_preds_get Engine.prog_preds_set Engine.prog_rules_get Engine.prog_rules_set Engine.prog_strata_get Engine.prog_strata_set Engine.stats_rounds_get Engine.stats_rounds_set Engine.stats_fired_get Engine.stats_fired_set Engine.stats_emitted_get Engine.stats_emitted_set Engine.stats_fresh_get Engine.stats_fresh_set Level.length_enc Level.ok_enc Level.all_get Level.all_set Level.heads_get Level.heads_set Level.jobs_get Level.jobs_set Plan.length_enc Plan.ok_enc Plan.all_get Plan.all_set Plan.rule_get Plan.rule_set Plan.delta_get Plan.delta_set Plan.src_get Plan.src_set Job.length_enc Job.ok_enc Job.all_get Job.all_set Job.full_get Job.full_set Job.deltas_get Job.deltas_set Job.full_rule_get Job.full_rule_set Job.full_delta_get Job.full_delta_set Job.full_src_get Job.full_src_set GState.length_enc GState.ok_enc GState.all_get GState.all_set GState.prog_get GState.prog_set GState.base_get GState.base_set GState.shown_get GState.shown_set GState.prog_preds_get GState.prog_preds_set GState.prog_rules_get GState.prog_rules_set GState.prog_strata_get GState.prog_strata_set Store.length_enc Store.ok_enc Store.all_get Store.all_set Store.arity_get Store.arity_set Store.rows_get Store.rows_set Env.length_enc Env.ok_enc Env.all_get Env.all_set Env.val_get Env.val_set Env.set_get Env.set_set
attribute [local go_sem] size_put size_ext blk_put free_put blk_alloc free_alloc blk_drew free_drew blk_ext free_ext lookOr_some putOr_some segAt_some cellAt_some storeIn_some put_put put_alloc_new length_arr ok_arr_u8 ok_arr_u32 ok_arr_u64 ok_arr_i64 ok_arr_sl cellsV_agg cellsV_int cellsV_bool cellsV_string cellsV_pointer cellsV_slice cellsV_sl ok_int ok_bool ok_string ok_pointer ok_slice ok_sl toList_arr seg_arr set_arr nth_splice nth_splice0 seg_splice seg_splice0 splice_splice splice_splice0 length_splice_if
attribute [local go_sem ↓] execOp_box
attribute [local go_sem] box_run nth_arr_u8 put_arr_u8 blk_drewN free_drewN put_drewN blk_raw free_raw
/-- No next relation holds anything. -/
def NxE (p : Pg) (S : List (List Tup)) : Prop := S.length = 3 * p.P.length ∧ SOk S ∧ ∀ q, q < p.P.length → rowsAt S (3 * q + 2) = []
theorem NxE.rd {p : Pg} {S : List (List Tup)} (h : NxE p S) (s : Nat) : RdOk p s S := by
  refine ⟨h.1, h.2.1, fun q hq => ?_⟩
  have hn := h.2.2 q (heads_lt hq)
  unfold Pro
  rw [hn]
  exact ⟨List.nodup_nil, fun t ht => by (cases ht), (h.2.1.at (3 * q)).1⟩
/-- What the plans of a stratum may change: its heads' next relations. -/
def JEq (p : Pg) (s : Nat) (S S' : List (List Tup)) : Prop := S'.length = S.length ∧ ∀ r, (∀ q ∈ headsOf p s, r ≠ 3 * q + 2) → S'[r]? = S[r]?
theorem JEq.refl (p : Pg) (s : Nat) (S : List (List Tup)) : JEq p s S S := ⟨rfl, fun _ _ => rfl⟩
theorem JEq.trans {p : Pg} {s : Nat} {S S' S'' : List (List Tup)} (h : JEq p s S S') (h' : JEq p s S' S'') : JEq p s S S'' := ⟨h'.1.trans h.1, fun r hr => (h'.2 r hr).trans (h.2 r hr)⟩
theorem fireO_j {p : Pg} (hok : PgOk p) {s k : Nat} (hk : k ∈ jobsOf p s) {d : Int} {σ σ' : StQ} (h : fireO p k d σ = some σ') : JEq p s σ.1 σ'.1 := by
  unfold fireO at h
  by_cases hc : (rowsAt σ.1 (3 * hP p k)).length + (newN p σ.1 k d).length ≤ 512
  · rw [if_pos hc] at h
    injection h with h
    subst h
    refine ⟨by simp, fun r hr => List.getElem?_set_ne (fun e => hr _ (jobs_head hok hk).1 e.symm)⟩
  · rw [if_neg hc] at h; cases h
theorem fireDO_j {p : Pg} (hok : PgOk p) {s k : Nat} (hk : k ∈ jobsOf p s) {d : Nat} {σ σ' : StQ} (h : fireDO p k d σ = some σ') : JEq p s σ.1 σ'.1 := by
  unfold fireDO at h
  by_cases hc : rowsAt σ.1 (3 * litP p k d + 1) = []
  · rw [if_pos hc] at h; injection h with h; subst h; exact JEq.refl ..
  · rw [if_neg hc] at h; exact fireO_j hok hk h
theorem foldD_j {p : Pg} (hok : PgOk p) {s k : Nat} (hk : k ∈ jobsOf p s) {ds : List Nat} {σ σ' : StQ} (h : foldO (fun σ d => fireDO p k d σ) ds σ = some σ') : JEq p s σ.1 σ'.1 :=
  (foldO_inv (I := fun _ : StQ => True) (R := fun σ σ' : StQ => JEq p s σ.1 σ'.1) (fun _ => JEq.refl ..) (fun _ _ _ => JEq.trans) (fun d _ σ σ' _ hf => ⟨trivial, fireDO_j hok hk hf⟩) trivial h).2
theorem jobO_j {p : Pg} (hok : PgOk p) {s rn k : Nat} (hk : k ∈ jobsOf p s) {σ σ' : StQ} (h : jobO p s rn σ k = some σ') : JEq p s σ.1 σ'.1 := by
  unfold jobO at h
  by_cases hn : rn = 0
  · rw [if_pos hn] at h; exact fireO_j hok hk h
  · rw [if_neg hn] at h; exact foldD_j hok hk h
theorem jobs_j {p : Pg} (hok : PgOk p) {s rn : Nat} {ks : List Nat} (hks : ∀ k ∈ ks, k ∈ jobsOf p s) {σ σ' : StQ} (h : foldO (jobO p s rn) ks σ = some σ') : JEq p s σ.1 σ'.1 :=
  (foldO_inv (I := fun _ : StQ => True) (R := fun σ σ' : StQ => JEq p s σ.1 σ'.1) (fun _ => JEq.refl ..) (fun _ _ _ => JEq.trans) (fun k hk σ σ' _ hf => ⟨trivial, jobO_j hok (hks k hk) hf⟩) trivial h).2
theorem promL_at : ∀ {qs : List Nat} {S : List (List Tup)} {q : Nat}, q ∈ qs → qs.Nodup → 3 * q + 2 < S.length → (promL S qs)[3 * q]? = some (rowsAt S (3 * q) ++ rowsAt S (3 * q + 2)) ∧ (promL S qs)[3 * q + 1]? = some (rowsAt S (3 * q + 2)) ∧ (promL S qs)[3 * q + 2]? = some []
  | z :: qs, S, q, hm, hN, hl => by
    rw [List.nodup_cons] at hN
    show (promL (prom1 S z) qs)[3 * q]? = _ ∧ (promL (prom1 S z) qs)[3 * q + 1]? = _ ∧ (promL (prom1 S z) qs)[3 * q + 2]? = _
    rcases List.mem_cons.1 hm with rfl | hm
    · have ho : ∀ r, 3 * q ≤ r → r ≤ 3 * q + 2 → (promL (prom1 S q) qs)[r]? = (prom1 S q)[r]? := fun r h1 h2 => by
        refine promL_o _ _ (fun z hz => ?_)
        have : z ≠ q := fun e => hN.1 (e ▸ hz)
        omega
      rw [ho _ (by omega) (by omega), ho _ (by omega) (by omega), ho _ (by omega) (by omega)]
      exact ⟨prS_f hl, prS_d hl, prS_n hl⟩
    · have hzq : z ≠ q := fun e => hN.1 (e ▸ hm)
      have hs : ∀ r, 3 * q ≤ r → r ≤ 3 * q + 2 → (prom1 S z)[r]? = S[r]? := fun r h1 h2 => prS_o (by omega) (by omega) (by omega)
      obtain ⟨h1, h2, h3⟩ := promL_at (S := prom1 S z) hm hN.2 (by unfold prom1; rw [prS_len]; exact hl)
      rw [rowsAt_congr (hs (3 * q) (by omega) (by omega)), rowsAt_congr (hs (3 * q + 2) (by omega) (by omega))] at h1
      rw [rowsAt_congr (hs (3 * q + 2) (by omega) (by omega))] at h2
      exact ⟨h1, h2, h3⟩
theorem prom_rows {p : Pg} {s : Nat} {S : List (List Tup)} (hl : S.length = 3 * p.P.length) (r : Nat) (q j : Nat) (hr : r = 3 * q + j) (hj : j < 3) : rowsAt (promL S (headsOf p s)) r = if q ∈ headsOf p s then (if j = 0 then rowsAt S (3 * q) ++ rowsAt S (3 * q + 2) else if j = 1 then rowsAt S (3 * q + 2) else []) else rowsAt S r := by
  subst hr
  by_cases hq : q ∈ headsOf p s
  · rw [if_pos hq]
    have hqP := heads_lt hq
    obtain ⟨h1, h2, h3⟩ := promL_at (S := S) hq (heads_nodup p s) (by omega)
    rcases (by omega : j = 0 ∨ j = 1 ∨ j = 2) with rfl | rfl | rfl
    · rw [if_pos rfl]; exact rowsAt_some h1
    · rw [if_neg (by omega), if_pos rfl]; exact rowsAt_some h2
    · rw [if_neg (by omega), if_neg (by omega)]; exact rowsAt_some h3
  · rw [if_neg hq]
    refine rowsAt_congr (promL_o _ _ (fun z hz => ?_))
    have : z ≠ q := fun e => hq (e ▸ hz)
    omega
theorem outok_app {A B : List Tup} (hA : OutOk A) (hB : OutOk B) (hd : ∀ t ∈ B, t ∉ A) : OutOk (A ++ B) := by
  refine ⟨List.nodup_append.2 ⟨hA.1, hB.1, fun a ha b hb e => ?_⟩, fun t ht => (List.mem_append.1 ht).elim (hA.2 t) (hB.2 t)⟩
  subst e
  exact hd _ hb ha
theorem sok_of_rows {S : List (List Tup)} (h : ∀ r, r < S.length → (rowsAt S r).length ≤ 512 ∧ OutOk (rowsAt S r)) : SOk S := by
  intro L hL
  obtain ⟨r, hr⟩ := List.mem_iff_getElem?.1 hL
  have := h r (List.getElem?_eq_some_iff.1 hr).1
  rwa [rowsAt_some hr] at this
/-- A round keeps the next relations empty. -/
theorem NxE.round {p : Pg} (hok : PgOk p) {s rn : Nat} {σ σ' : StQ} (h : NxE p σ.1) (hj : jobsO p s rn σ = some σ') : NxE p (promL σ'.1 (headsOf p s)) := by
  have hR := (jobs_ok hok (fun k hk => hk) (h.rd s) hj).1
  have hJ := jobs_j hok (fun k hk => hk) hj
  have hl := hR.1
  have hnx : ∀ q, q < p.P.length → q ∉ headsOf p s → rowsAt σ'.1 (3 * q + 2) = [] := fun q hq hn => by
    rw [← h.2.2 q hq]
    refine rowsAt_congr (hJ.2 _ (fun z hz e => hn ?_))
    have : z = q := by omega
    exact this ▸ hz
  refine ⟨by rw [promL_len]; exact hl, sok_of_rows (fun r hr => ?_), fun q hq => ?_⟩
  · rw [promL_len, hl] at hr
    obtain ⟨q, j, e, hj3⟩ : ∃ q j, r = 3 * q + j ∧ j < 3 := ⟨r / 3, r % 3, by omega, by omega⟩
    rw [prom_rows hl r q j e hj3]
    by_cases hq : q ∈ headsOf p s
    · rw [if_pos hq]
      obtain ⟨p1, p2, p3⟩ := hR.2.2 q hq
      have o1 := (hR.2.1.at (3 * q)).2
      have o2 := (hR.2.1.at (3 * q + 2)).2
      by_cases h0 : j = 0
      · rw [if_pos h0]; exact ⟨by rw [List.length_append]; exact p3, outok_app o1 o2 p2⟩
      · rw [if_neg h0]
        by_cases h1 : j = 1
        · rw [if_pos h1]; exact hR.2.1.at (3 * q + 2)
        · rw [if_neg h1]; exact ⟨by simp, outOk_nil⟩
    · rw [if_neg hq]; exact hR.2.1.at r
  · rw [prom_rows hl (3 * q + 2) q 2 rfl (by omega)]
    by_cases hm : q ∈ headsOf p s
    · rw [if_pos hm, if_neg (by omega), if_neg (by omega)]
    · rw [if_neg hm]; exact hnx q hq hm
/-- All full relations' sizes together. -/
def tot (S : List (List Tup)) : Nat → Nat
  | 0 => 0
  | n + 1 => tot S n + (rowsAt S (3 * n)).length
theorem tot_le {S : List (List Tup)} (h : SOk S) : ∀ n, tot S n ≤ 512 * n
  | 0 => Nat.le_refl _
  | n + 1 => by
    have h1 := tot_le h n
    have h2 := (h.at (3 * n)).1
    show tot S n + _ ≤ _
    omega
theorem tot_mono {S S' : List (List Tup)} : ∀ n, (∀ q, q < n → (rowsAt S (3 * q)).length ≤ (rowsAt S' (3 * q)).length) → tot S n ≤ tot S' n
  | 0, _ => Nat.le_refl _
  | n + 1, h => by
    have h1 := tot_mono n (fun q hq => h q (by omega))
    have h2 := h n (by omega)
    show tot S n + _ ≤ tot S' n + _
    omega
theorem tot_lt {S S' : List (List Tup)} : ∀ n, (∀ q, q < n → (rowsAt S (3 * q)).length ≤ (rowsAt S' (3 * q)).length) → (∃ q, q < n ∧ (rowsAt S (3 * q)).length < (rowsAt S' (3 * q)).length) → tot S n < tot S' n
  | 0, _, ⟨q, hq, _⟩ => absurd hq (Nat.not_lt_zero _)
  | n + 1, h, ⟨q, hq, hlt⟩ => by
    have h2 := h n (by omega)
    show tot S n + _ < tot S' n + _
    by_cases hqn : q = n
    · subst hqn
      have h1 := tot_mono (S := S) (S' := S') q (fun q hq => h q (by omega))
      omega
    · have h1 := tot_lt (S := S) (S' := S') n (fun q hq => h q (by omega)) ⟨q, by omega, hlt⟩
      omega
theorem round_rows {p : Pg} (hok : PgOk p) {s rn : Nat} {σ σ' : StQ} (h : NxE p σ.1) (hj : jobsO p s rn σ = some σ') (q : Nat) : rowsAt (promL σ'.1 (headsOf p s)) (3 * q) = if q ∈ headsOf p s then rowsAt σ.1 (3 * q) ++ rowsAt σ'.1 (3 * q + 2) else rowsAt σ.1 (3 * q) := by
  have hR := (jobs_ok hok (fun k hk => hk) (h.rd s) hj).1
  have hJ := jobs_j hok (fun k hk => hk) hj
  have e : rowsAt σ'.1 (3 * q) = rowsAt σ.1 (3 * q) := rowsAt_congr (hJ.2 _ (fun z hz => by omega))
  rw [prom_rows hR.1 (3 * q) q 0 rfl (by omega), if_pos rfl, e]
theorem tot_round {p : Pg} (hok : PgOk p) {s rn : Nat} {σ σ' : StQ} (h : NxE p σ.1) (hj : jobsO p s rn σ = some σ') : tot σ.1 p.P.length ≤ tot (promL σ'.1 (headsOf p s)) p.P.length ∧ (anyN σ'.1 (headsOf p s) = true → tot σ.1 p.P.length < tot (promL σ'.1 (headsOf p s)) p.P.length) := by
  have hle : ∀ q, q < p.P.length → (rowsAt σ.1 (3 * q)).length ≤ (rowsAt (promL σ'.1 (headsOf p s)) (3 * q)).length := fun q _ => by
    rw [round_rows hok h hj q]
    by_cases hq : q ∈ headsOf p s
    · rw [if_pos hq, List.length_append]; omega
    · rw [if_neg hq]; exact Nat.le_refl _
  refine ⟨tot_mono _ hle, fun ha => tot_lt _ hle ?_⟩
  unfold anyN at ha
  rw [List.any_eq_true] at ha
  obtain ⟨q, hq, hne⟩ := ha
  refine ⟨q, heads_lt hq, ?_⟩
  rw [round_rows hok h hj q, if_pos hq, List.length_append]
  cases hr : rowsAt σ'.1 (3 * q + 2) with
  | nil => rw [hr] at hne; cases hne
  | cons a l => rw [List.length_cons]; omega
/-- The rounds of a run. -/
inductive RunsTo (p : Pg) : Nat → Nat → StQ → Option StQ → Prop
  | over {s rn : Nat} {σ : StQ} : jobsO p s rn σ = none → RunsTo p s rn σ none
  | more {s rn : Nat} {σ σ' : StQ} {r : Option StQ} : jobsO p s rn σ = some σ' → anyN σ'.1 (headsOf p s) = true → RunsTo p s (rn + 1) (promL σ'.1 (headsOf p s), qR σ'.2) r → RunsTo p s rn σ r
  | next {s rn : Nat} {σ σ' : StQ} {r : Option StQ} : jobsO p s rn σ = some σ' → anyN σ'.1 (headsOf p s) = false → s + 1 < p.St → RunsTo p (s + 1) 0 (promL σ'.1 (headsOf p s), qR σ'.2) r → RunsTo p s rn σ r
  | done {s rn : Nat} {σ σ' : StQ} : jobsO p s rn σ = some σ' → anyN σ'.1 (headsOf p s) = false → ¬ s + 1 < p.St → RunsTo p s rn σ (some (promL σ'.1 (headsOf p s), qR σ'.2))
/-- No run is under way: the delta and next relations are empty. -/
def Idle (p : Pg) (S : List (List Tup)) : Prop := NxE p S ∧ ∀ q, q < p.P.length → rowsAt S (3 * q + 1) = []
theorem begS_rows {p : Pg} {S : List (List Tup)} (hl : S.length = 3 * p.P.length) {r q j : Nat} (hr : r = 3 * q + j) (hj : j < 3) : ∀ n, n ≤ p.P.length → rowsAt (begS p S n) r = if q < n ∧ j = 0 ∧ basP p q = false then [] else rowsAt S r
  | 0, _ => by rw [if_neg (by omega)]; rfl
  | n + 1, hn => by
    have ih := begS_rows hl hr hj n (by omega)
    show rowsAt (if basP p n then begS p S n else (begS p S n).set (3 * n) []) r = _
    by_cases hb : basP p n = true
    · rw [if_pos hb, ih]
      by_cases hq : q = n
      · subst hq
        rw [if_neg (by omega), if_neg (by rw [hb]; simp)]
      · by_cases hc : q < n ∧ j = 0 ∧ basP p q = false
        · rw [if_pos hc, if_pos ⟨by omega, hc.2⟩]
        · rw [if_neg hc, if_neg (fun h => hc ⟨by omega, h.2⟩)]
    · rw [if_neg hb, rowsAt_set (by rw [begS_len]; omega), ih]
      have hb' : basP p n = false := by simpa using hb
      by_cases hrn : r = 3 * n
      · rw [if_pos hrn]
        have e1 : q = n := by omega
        have e2 : j = 0 := by omega
        rw [if_pos ⟨by omega, e2, e1 ▸ hb'⟩]
      · rw [if_neg hrn]
        by_cases hc : q < n ∧ j = 0 ∧ basP p q = false
        · rw [if_pos hc, if_pos ⟨by omega, hc.2⟩]
        · rw [if_neg hc, if_neg (fun h => hc ⟨by omega, h.2⟩)]
theorem Idle.beg {p : Pg} {S : List (List Tup)} (h : Idle p S) : NxE p (begS p S p.P.length) := by
  have hl := h.1.1
  refine ⟨by rw [begS_len]; exact hl, sok_of_rows (fun r hr => ?_), fun q hq => ?_⟩
  · rw [begS_len, hl] at hr
    rw [begS_rows hl (q := r / 3) (j := r % 3) (by omega) (by omega) _ (Nat.le_refl _)]
    by_cases hc : r / 3 < p.P.length ∧ r % 3 = 0 ∧ basP p (r / 3) = false
    · rw [if_pos hc]; exact ⟨by simp, outOk_nil⟩
    · rw [if_neg hc]; exact h.1.2.1.at r
  · rw [begS_rows hl (q := q) (j := 2) rfl (by omega) _ (Nat.le_refl _), if_neg (by omega)]
    exact h.1.2.2 q hq
theorem begV_len (p : Pg) (S sav : List (List Tup)) : ∀ n, (begV p S sav n).length = sav.length
  | 0 => rfl
  | n + 1 => by
    show (if _ then _ else _ : List (List Tup)).length = _
    by_cases h : basP p n = true
    · rw [if_pos h]; exact begV_len p S sav n
    · rw [if_neg h]; simp; exact begV_len p S sav n
theorem begV_rows {p : Pg} {S sav : List (List Tup)} (hl : sav.length = p.P.length) {q : Nat} (hb : basP p q = false) : ∀ n, n ≤ p.P.length → q < n → rowsAt (begV p S sav n) q = rowsAt S (3 * q)
  | 0, _, h => absurd h (Nat.not_lt_zero _)
  | n + 1, hn, hq => by
    show rowsAt (if basP p n then begV p S sav n else (begV p S sav n).set n (rowsAt S (3 * n))) q = _
    by_cases hqn : q = n
    · subst hqn
      rw [if_neg (by rw [hb]; decide), rowsAt_set (by rw [begV_len]; omega), if_pos rfl]
    · have ih := begV_rows (S := S) (sav := sav) hl hb n (by omega) (by omega)
      by_cases hbn : basP p n = true
      · rw [if_pos hbn]; exact ih
      · rw [if_neg hbn, rowsAt_set (by rw [begV_len]; omega), if_neg hqn]; exact ih
theorem resS_rows {p : Pg} {S sav : List (List Tup)} (hl : S.length = 3 * p.P.length) {r q j : Nat} (hr : r = 3 * q + j) (hj : j < 3) : ∀ n, n ≤ p.P.length → rowsAt (resS p S sav n) r = if q < n ∧ basP p q = false then (if j = 0 then rowsAt sav q else []) else rowsAt S r
  | 0, _ => by rw [if_neg (by omega)]; rfl
  | n + 1, hn => by
    have ih := resS_rows (sav := sav) hl hr hj n (by omega)
    show rowsAt (if basP p n then resS p S sav n else (((resS p S sav n).set (3 * n) (rowsAt sav n)).set (3 * n + 1) []).set (3 * n + 2) []) r = _
    have hln := resS_len p S sav n
    by_cases hb : basP p n = true
    · rw [if_pos hb, ih]
      by_cases hc : q < n ∧ basP p q = false
      · rw [if_pos hc, if_pos (⟨by omega, hc.2⟩ : q < n + 1 ∧ basP p q = false)]
      · rw [if_neg hc, if_neg (fun h => by
          by_cases hq : q = n
          · subst hq; rw [hb] at h; cases h.2
          · exact hc ⟨by omega, h.2⟩)]
    · have hb' : basP p n = false := by simpa using hb
      rw [if_neg hb, rowsAt_set (by simp; omega), rowsAt_set (by simp; omega), rowsAt_set (by omega), ih]
      by_cases hq : q = n
      · subst hq
        rw [if_pos (⟨by omega, hb'⟩ : q < q + 1 ∧ basP p q = false)]
        rcases (by omega : j = 0 ∨ j = 1 ∨ j = 2) with rfl | rfl | rfl
        · rw [if_neg (by omega), if_neg (by omega), if_pos (by omega), if_pos rfl]
        · rw [if_neg (by omega), if_pos (by omega), if_neg (by omega)]
        · rw [if_pos (by omega), if_neg (by omega)]
      · rw [if_neg (by omega), if_neg (by omega), if_neg (by omega)]
        by_cases hc : q < n ∧ basP p q = false
        · rw [if_pos hc, if_pos (⟨by omega, hc.2⟩ : q < n + 1 ∧ basP p q = false)]
        · rw [if_neg hc, if_neg (fun h => hc ⟨by omega, h.2⟩)]
theorem ext_rows {S S' : List (List Tup)} (hl : S.length = S'.length) (h : ∀ r, r < S.length → rowsAt S r = rowsAt S' r) : S = S' := by
  apply List.ext_getElem?
  intro i
  by_cases hi : i < S.length
  · have := h i hi
    unfold rowsAt at this
    rw [List.getD_eq_getElem?_getD, List.getD_eq_getElem?_getD] at this
    rw [List.getElem?_eq_getElem hi, List.getElem?_eq_getElem (by omega)] at this ⊢
    exact congrArg some this
  · rw [List.getElem?_eq_none (by omega), List.getElem?_eq_none (by omega)]
/-- A run that is given up leaves all as it was. -/
theorem res_beg {p : Pg} {S S'' sav : List (List Tup)} (h : Idle p S) (hsl : sav.length = p.P.length) (hb : BaseEq p (begS p S p.P.length) S'') : resS p S'' (begV p S sav p.P.length) p.P.length = S := by
  have hl := h.1.1
  have hl2 : S''.length = 3 * p.P.length := by rw [hb.1, begS_len]; exact hl
  refine ext_rows (by rw [resS_len, hl2, hl]) (fun r hr => ?_)
  rw [resS_len, hl2] at hr
  obtain ⟨q, j, e, hj⟩ : ∃ q j, r = 3 * q + j ∧ j < 3 := ⟨r / 3, r % 3, by omega, by omega⟩
  rw [resS_rows hl2 e hj _ (Nat.le_refl _)]
  by_cases hbq : basP p q = true
  · rw [if_neg (by rw [hbq]; simp), e]
    have h1 := hb.2 q (by omega) hbq j hj
    rw [rowsAt_congr h1, begS_rows hl (q := q) (j := j) rfl hj _ (Nat.le_refl _), if_neg (by rw [hbq]; simp)]
  · have hbq' : basP p q = false := by simpa using hbq
    rw [if_pos ⟨by omega, hbq'⟩]
    rcases (by omega : j = 0 ∨ j = 1 ∨ j = 2) with rfl | rfl | rfl
    · rw [if_pos rfl, begV_rows hsl hbq' _ (Nat.le_refl _) (by omega), e]; rfl
    · rw [if_neg (by omega), e]; exact (h.2 q (by omega)).symm
    · rw [if_neg (by omega), e]; exact (h.1.2.2 q (by omega)).symm
theorem round_base {p : Pg} (hok : PgOk p) {s rn : Nat} {σ σ' : StQ} (h : NxE p σ.1) (hj : jobsO p s rn σ = some σ') : BaseEq p σ.1 (promL σ'.1 (headsOf p s)) := by
  have hB := (jobs_ok hok (fun k hk => hk) (h.rd s) hj).2
  refine hB.trans ⟨promL_len .., fun q hq hb j hj => promL_o _ _ (fun z hz => ?_)⟩
  have hzb : basP p z = false := by
    unfold headsOf at hz
    have := (List.mem_filter.1 hz).2
    simp only [Bool.and_eq_true, Bool.not_eq_true'] at this
    exact this.1
  have : z ≠ q := fun e => by rw [e, hb] at hzb; cases hzb
  omega
end Go.Proofs.Qxb6500788a
