import Derived.Test.Qxb6500788aKh
import Derived.Test.Qxb6500788aKi
import Derived.StillTailTactics
import Derived.Deep.QuietTactic
import Derived.BigQuiet
import Derived.Deep.RegionHeld
import Derived.Deep.CutRange
import Derived.Laws.ResultCell
import Derived.Laws.Rows
import Derived.DeepKeys
import Derived.DataBytes
import Derived.Laws.StructEq
import Derived.Laws.AppendOwn
import Derived.Laws.MakeOwn
set_option linter.unusedSimpArgs false
set_option linter.unusedVariables false
namespace Go.Proofs.Qxb6500788a
open Go.RowKit Go.Blk
attribute [local go_sem ↓] execOp_load execOp_store execOp_alloc
attribute [local go_sem] Try.ld24 Try.st24 Try.ld25 Try.st25 Try.ld3 Try.st3 Try.ld30 Try.st30 Try.ld36 Try.st36 Try.ld4 Try.st4 Try.ld41 Try.st41 Try.ld50 Try.st50 Try.ld40 Try.st40 Try.ld42 Try.st42 Try.ld89 Try.st89 Try.ld91 Try.st91 Try.ld56 Try.st56 Try.ld97 Try.st97 Try.ld98 Try.st98 Try.ld101 Try.st101 Try.ld104 Try.st104 Try.ld57 Try.st57 Try.ld130 Try.st130 Try.ld2 Try.st2 Try.ld5 Try.st5 Try.ld9 Try.st9 Try.ld12 Try.st12 Try.ld21 Try.st21 Try.ld22 Try.st22 Try.ld29 Try.st29 Try.ld33 Try.st33 Try.ld59 Try.st59 Try.ld62 Try.st62 Try.ld69 Try.st69 Try.ld94 Try.st94 Try.ld96 Try.st96 Try.ld129 Try.st129 Try.ld158 Try.st158 Try.ld162 Try.st162 Try.ld47 Try.st47 Try.ld44 Try.st44 Try.ld137 Try.st137 Try.ld145 Try.st145 Try.ld43 Try.st43 Try.ld27 Try.st27 Try.ld38 Try.st38 Try.ld46 Try.st46 Try.ld49 Try.st49 Try.ld52 Try.st52 Try.ld54 Try.st54 Try.ld61 Try.st61 Try.ld80 Try.st80 Try.ld87 Try.st87 Try.ld93 Try.st93 Try.ld100 Try.st100 Try.ld103 Try.st103 Try.ld106 Try.st106 Try.ld109 Try.st109 Try.ld132 Try.st132 Try.ld147 Try.st147 Try.al47 Try.al44 Try.al137 Try.al145 Try.al43 Try.al27 Try.al38 Try.al46 Try.al49 Try.al52 Try.al54 Try.al61 Try.al80 Try.al87 Try.al93 Try.al100 Try.al103 Try.al106 Try.al109 Try.al132 Try.al147
attribute [local go_sem] GProgram.length_enc GProgram.ok_enc GProgram.all_get GProgram.all_set GProgram.preds_get GProgram.preds_set GProgram.rules_get GProgram.rules_set GProgram.strata_get GProgram.strata_set Answer.length_enc Answer.ok_enc Answer.all_get Answer.all_set Answer.code_get Answer.code_set Answer.n_get Answer.n_set Answer.rows_get Answer.rows_set Term.length_enc Term.ok_enc Term.all_get Term.all_set Term.var_get Term.var_set Term.n_get Term.n_set Atom.length_enc Atom.ok_enc Atom.all_get Atom.all_set Atom.pred_get Atom.pred_set Atom.args_get Atom.args_set GRule.length_enc GRule.ok_enc GRule.all_get GRule.all_set GRule.head_get GRule.head_set GRule.body_get GRule.body_set GRule.head_pred_get GRule.head_pred_set GRule.head_args_get GRule.head_args_set GOp.length_enc GOp.ok_enc GOp.all_get GOp.all_set GOp.kind_get GOp.kind_set GOp.pred_get GOp.pred_set GOp.t_get GOp.t_set GOp.n_get GOp.n_set GOp.base_get GOp.base_set GOp.rule_get GOp.rule_set GOp.rule_head_get GOp.rule_head_set GOp.rule_body_get GOp.rule_body_set GOp.rule_head_pred_get GOp.rule_head_pred_set GOp.rule_head_args_get GOp.rule_head_args_set PredInfo.length_enc PredInfo.ok_enc PredInfo.all_get PredInfo.all_set PredInfo.arity_get PredInfo.arity_set PredInfo.base_get PredInfo.base_set PredInfo.stratum_get PredInfo.stratum_set GStats.length_enc GStats.ok_enc GStats.all_get GStats.all_set GStats.rounds_get GStats.rounds_set GStats.fired_get GStats.fired_set GStats.emitted_get GStats.emitted_set GStats.fresh_get GStats.fresh_set Literal.length_enc Literal.ok_enc Literal.all_get Literal.all_set Literal.neg_get Literal.neg_set Literal.atom_get Literal.atom_set Literal.atom_pred_get Literal.atom_pred_set Literal.atom_args_get Literal.atom_args_set Engine.length_enc Engine.ok_enc Engine.all_get Engine.all_set Engine.prog_get Engine.prog_set Engine.st_get Engine.st_set Engine.levels_get Engine.levels_set Engine.running_get Engine.running_set Engine.stratum_get Engine.stratum_set Engine.round_get Engine.round_set Engine.saved_get Engine.saved_set Engine.stats_get Engine.stats_set Engine.prog_preds_get Engine.prog_preds_set Engine.prog_rules_get Engine.prog_rules_set Engine.prog_strata_get Engine.prog_strata_set Engine.stats_rounds_get Engine.stats_rounds_set Engine.stats_fired_get Engine.stats_fired_set Engine.stats_emitted_get Engine.stats_emitted_set Engine.stats_fresh_get Engine.stats_fresh_set Level.length_enc Level.ok_enc Level.all_get Level.all_set Level.heads_get Level.heads_set Level.jobs_get Level.jobs_set Plan.length_enc Plan.ok_enc Plan.all_get Plan.all_set Plan.rule_get Plan.rule_set Plan.delta_get Plan.delta_set Plan.src_get Plan.src_set Job.length_enc Job.ok_enc Job.all_get Job.all_set Job.full_get Job.full_set Job.deltas_get Job.deltas_set Job.full_rule_get Job.full_rule_set Job.full_delta_get Job.full_delta_set Job.full_src_get Job.full_src_set GState.length_enc GState.ok_enc GState.all_get GState.all_set GState.prog_get GState.prog_set GState.base_get GState.base_set GState.shown_get GState.shown_set GState.prog_preds_get GState.prog_preds_set GState.prog_rules_get GState.prog_rules_set GState.prog_strata_get GState.prog_strata_set Store.length_enc Store.ok_enc Store.all_get Store.all_set Store.arity_get Store.arity_set Store.rows_get Store.rows_set Env.length_enc Env.ok_enc Env.all_get Env.all_set Env.val_get Env.val_set Env.set_get Env.set_set
attribute [local go_sem] size_put size_ext blk_put free_put blk_alloc free_alloc blk_drew free_drew blk_ext free_ext lookOr_some putOr_some segAt_some cellAt_some storeIn_some put_put put_alloc_new length_arr ok_arr_u8 ok_arr_u32 ok_arr_u64 ok_arr_i64 ok_arr_sl cellsV_agg cellsV_int cellsV_bool cellsV_string cellsV_pointer cellsV_slice cellsV_sl ok_int ok_bool ok_string ok_pointer ok_slice ok_sl toList_arr seg_arr set_arr nth_splice nth_splice0 seg_splice seg_splice0 splice_splice splice_splice0 length_splice_if
attribute [local go_sem ↓] execOp_box
attribute [local go_sem] box_run nth_arr_u8 put_arr_u8 blk_drewN free_drewN put_drewN blk_raw free_raw
theorem step_any (W0 : World) (O : Own) (W : World) (bm bb bs : Nat) (p : Pg) (T U : Nat → List Tup) (hM : MAt W0 O W bm bb bs p T U) (hok : PgOk p) (hT : RelI p T) (hU : RelI p U) (op : GOp) : Calls Try.prog 15 #[.pointer (some ⟨bm, 0, none⟩), .agg (GOp.enc op).toArray] W (StepPost W0 O W bm bb bs p T U op) := by
  by_cases h0 : op.kind = 0
  · exact step_skip0 W0 O W bm bb bs p T U hM hok hT hU op h0
  by_cases h1 : op.kind = 1
  · exact step_skip1 W0 O W bm bb bs p T U hM hok hT hU op h1
  by_cases h2 : op.kind = 2
  · exact step_fact W0 O W bm bb bs p T U hM hok hT hU op h2
  by_cases h3 : op.kind = 3
  · exact step_drop W0 O W bm bb bs p T U hM hok hT hU op h3
  by_cases h4 : op.kind = 4
  · exact step_run W0 O W bm bb bs p T U hM hok hT hU op h4
  by_cases h5 : op.kind = 5
  · exact step_has W0 O W bm bb bs p T U hM hok hT hU op h5
  by_cases h6 : op.kind = 6
  · exact step_list W0 O W bm bb bs p T U hM hok hT hU op h6
  exact step_bad W0 O W bm bb bs p T U hM hok hT hU op (by omega)
/-- The model's state shows what the engine holds. -/
def JR (p : Pg) (S : List (List Tup)) (T U : Nat → List Tup) : Prop := ∀ q, q < p.P.length → (basP p q = true → (T q).Perm (rowsAt S (3 * q)) ∧ U q = []) ∧ (basP p q = false → T q = [] ∧ (U q).Perm (rowsAt S (3 * q)))
theorem outOk_perm {A B : List Tup} (h : A.Perm B) (hB : OutOk B) : OutOk A := ⟨h.nodup_iff.2 hB.1, fun t ht => hB.2 t (h.mem_iff.1 ht)⟩
theorem JR.relT {p : Pg} {S : List (List Tup)} {T U : Nat → List Tup} (h : JR p S T U) (hS : EngI p S) : RelI p T := fun q hq => by
  obtain ⟨h1, h2⟩ := h q hq
  cases hb : basP p q with
  | true => exact outOk_perm (h1 hb).1 (allT_relI hS q hq)
  | false => rw [(h2 hb).1]; exact outOk_nil
theorem JR.relU {p : Pg} {S : List (List Tup)} {T U : Nat → List Tup} (h : JR p S T U) (hS : EngI p S) : RelI p U := fun q hq => by
  obtain ⟨h1, h2⟩ := h q hq
  cases hb : basP p q with
  | true => rw [(h1 hb).2]; exact outOk_nil
  | false => exact outOk_perm (h2 hb).2 (allT_relI hS q hq)
theorem JR.rows {p : Pg} {S : List (List Tup)} {T U : Nat → List Tup} (h : JR p S T U) {q : Nat} (hq : q < p.P.length) : (rowsM p T U q).Perm (rowsAt S (3 * q)) := by
  obtain ⟨h1, h2⟩ := h q hq
  unfold rowsM
  cases hb : basP p q with
  | true => rw [if_pos rfl]; exact (h1 hb).1
  | false => rw [if_neg (by decide)]; exact (h2 hb).2
theorem insC_perm {A B : List Tup} (h : A.Perm B) (t : Tup) : insC A t = insC B t := by
  unfold insC
  rw [h.length_eq]
  by_cases hm : t ∈ A
  · rw [if_pos hm, if_pos (h.mem_iff.1 hm)]
  · rw [if_neg hm, if_neg (fun h' => hm (h.mem_iff.2 h'))]
theorem insL_perm {A B : List Tup} (h : A.Perm B) (t : Tup) : (insL A t).Perm (insL B t) := by
  unfold insL
  rw [h.length_eq]
  by_cases hm : t ∈ A
  · rw [if_pos hm, if_pos (h.mem_iff.1 hm)]; exact h
  · rw [if_neg hm, if_neg (fun h' => hm (h.mem_iff.2 h'))]
    by_cases hl : B.length = 512
    · rw [if_pos hl, if_pos hl]; exact h
    · rw [if_neg hl, if_neg hl]; exact h.append_right _
theorem delC_perm {A B : List Tup} (h : A.Perm B) (t : Tup) : delC A t = delC B t := by
  unfold delC
  by_cases hm : t ∈ A
  · rw [if_pos hm, if_pos (h.mem_iff.1 hm)]
  · rw [if_neg hm, if_neg (fun h' => hm (h.mem_iff.2 h'))]
theorem delL_perm {A B : List Tup} (h : A.Perm B) (t : Tup) : (delL A t).Perm (delL B t) := by
  unfold delL
  by_cases hm : t ∈ A
  · rw [if_pos hm, if_pos (h.mem_iff.1 hm)]
    unfold restT
    exact h.filter _
  · rw [if_neg hm, if_neg (fun h' => hm (h.mem_iff.2 h'))]; exact h
theorem ckF_zero3 {p : Pg} {q : Int} {t : Tup} (h : ckF p false q t = 0) : inT p q ∧ basP p q.toNat = true := by
  unfold ckF at h
  rw [if_neg (by decide)] at h
  by_cases h1 : ckT p q t = 0
  · rw [if_neg (fun h' => h' h1)] at h
    refine ⟨ckT_in h1, ?_⟩
    cases hb : basP p q.toNat with
    | true => rfl
    | false => rw [hb, if_neg (by decide)] at h; cases h
  · rw [if_pos h1] at h; exact absurd h h1
theorem JR.set {p : Pg} {S : List (List Tup)} {T U : Nat → List Tup} (h : JR p S T U) (hl : S.length = 3 * p.P.length) {q : Nat} (hq : q < p.P.length) (hb : basP p q = true) {A B : List Tup} (hp : A.Perm B) : JR p (S.set (3 * q) B) (fun x => if x = q then A else T x) U := fun x hx => by
  rw [rowsAt_set (by omega)]
  show (_ → (if x = q then A else T x).Perm _ ∧ _) ∧ (_ → (if x = q then A else T x) = [] ∧ _)
  by_cases hxq : x = q
  · subst hxq
    rw [if_pos rfl, if_pos rfl]
    exact ⟨fun _ => ⟨hp, ((h x hx).1 hb).2⟩, fun hf => by rw [hb] at hf; cases hf⟩
  · rw [if_neg hxq, if_neg (by omega)]
    exact h x hx
/-- Engine and model, step by step. -/
theorem jr_step {p : Pg} (hok : PgOk p) {S S' : List (List Tup)} {T U T' U' : Nat → List Tup} {op : GOp} {c n c' n' : Int} {ts ts' : List Tup} (hJ : JR p S T U) (hS : EngI p S) (hp : PlayR p S op S' c n ts) (hm : MR p T U op T' U' c' n' ts') : c = c' ∧ n = n' ∧ ts'.Perm ts ∧ JR p S' T' U' ∧ ts.length ≤ 512 := by
  cases hm with
  | skip hk =>
    cases hp with
    | skip => exact ⟨rfl, rfl, List.Perm.refl _, hJ, by simp⟩
    | fact h => omega
    | drop h => omega
    | over h => omega
    | runs h => omega
    | has h => omega
    | list h => omega
    | bad h => omega
  | fact hk =>
    cases hp with
    | skip h => omega
    | fact =>
      by_cases hc : ckF p false op.pred op.t = 0
      · obtain ⟨hi, hb⟩ := ckF_zero3 hc
        have hq : op.pred.toNat < p.P.length := by have := hi.1; have := hi.2; omega
        have hP := ((hJ _ hq).1 hb).1
        unfold addC addS mAddC mAdd
        rw [if_neg (fun h => h hc), if_neg (fun h => h hc), if_neg (fun h => h hc), if_neg (fun h => h hc)]
        refine ⟨(insC_perm hP _).symm, rfl, List.Perm.refl _, ?_, by simp⟩
        have := hJ.set hS.1.1.1 hq hb (insL_perm hP op.t)
        refine Eq.mp (congrArg (fun X => JR p _ X U) (funext fun x => ?_)) this
        by_cases hx : x = op.pred.toNat
        · rw [if_pos hx, if_pos hx, hx]
        · rw [if_neg hx, if_neg hx]
      · unfold addC addS mAddC mAdd
        rw [if_pos hc, if_pos hc, if_pos hc, if_pos hc]
        exact ⟨rfl, rfl, List.Perm.refl _, hJ, by simp⟩
    | drop h => omega
    | over h => omega
    | runs h => omega
    | has h => omega
    | list h => omega
    | bad h => omega
  | drop hk =>
    cases hp with
    | skip h => omega
    | fact h => omega
    | drop =>
      by_cases hc : ckF p false op.pred op.t = 0
      · obtain ⟨hi, hb⟩ := ckF_zero3 hc
        have hq : op.pred.toNat < p.P.length := by have := hi.1; have := hi.2; omega
        have hP := ((hJ _ hq).1 hb).1
        unfold dropC dropS mDelC mDel
        rw [if_neg (fun h => h hc), if_neg (fun h => h hc), if_neg (fun h => h hc), if_neg (fun h => h hc)]
        refine ⟨(delC_perm hP _).symm, rfl, List.Perm.refl _, ?_, by simp⟩
        have := hJ.set hS.1.1.1 hq hb (delL_perm hP op.t)
        refine Eq.mp (congrArg (fun X => JR p _ X U) (funext fun x => ?_)) this
        by_cases hx : x = op.pred.toNat
        · rw [if_pos hx, if_pos hx, hx]
        · rw [if_neg hx, if_neg hx]
      · unfold dropC dropS mDelC mDel
        rw [if_pos hc, if_pos hc, if_pos hc, if_pos hc]
        exact ⟨rfl, rfl, List.Perm.refl _, hJ, by simp⟩
    | over h => omega
    | runs h => omega
    | has h => omega
    | list h => omega
    | bad h => omega
  | @over T3 hk hP hO =>
    have hM : ∀ q, q < p.P.length → ∀ t, t ∈ basT p S q ↔ t ∈ T q := fun q hq t => by
      unfold basT
      cases hb : basP p q with
      | true => rw [if_pos rfl]; exact ((hJ q hq).1 hb).1.mem_iff.symm
      | false => rw [if_neg (by decide), ((hJ q hq).2 hb).1]
    cases hp with
    | skip h => omega
    | fact h => omega
    | drop h => omega
    | over => exact ⟨rfl, rfl, List.Perm.refl _, hJ, by simp⟩
    | runs h h2 =>
      rcases run_perf hok hS (hJ.relT hS) hM h2 hP with ⟨h', _⟩ | ⟨_, _, _, h'⟩
      · cases h'
      · exact absurd hO h'
    | has h => omega
    | list h => omega
    | bad h => omega
  | @run T3 hk hP hR hO =>
    have hM : ∀ q, q < p.P.length → ∀ t, t ∈ basT p S q ↔ t ∈ T q := fun q hq t => by
      unfold basT
      cases hb : basP p q with
      | true => rw [if_pos rfl]; exact ((hJ q hq).1 hb).1.mem_iff.symm
      | false => rw [if_neg (by decide), ((hJ q hq).2 hb).1]
    cases hp with
    | skip h => omega
    | fact h => omega
    | drop h => omega
    | over h h2 =>
      rcases run_perf hok hS (hJ.relT hS) hM h2 hP with ⟨_, h'⟩ | ⟨_, h', _⟩
      · exact absurd h' hO
      · cases h'
    | @runs σ h h2 =>
      rcases run_perf hok hS (hJ.relT hS) hM h2 hP with ⟨h', _⟩ | ⟨τ, h', hMt, _⟩
      · cases h'
      · injection h' with h'
        subst h'
        have hE : EngI p σ.1 := runs_inv hok h2 hS.beg.1 hS.beg.2 _ rfl
        have hF := run_fin hok hS h2
        refine ⟨rfl, rfl, List.Perm.refl _, fun q hq => ⟨fun hb => ?_, fun hb => ?_⟩, by simp⟩
        · have h1 := (hJ q hq).1 hb
          refine ⟨h1.1.trans (perm_of (hS.1.1.2.1.at (3 * q)).2.1 (hE.1.1.2.1.at (3 * q)).2.1 (fun t => ?_)), ?_⟩
          · have h2 := hF.low q hq (.inl hb) t
            rw [begS_rows hS.1.1.1 (r := 3 * q) (q := q) (j := 0) rfl (by omega) _ (Nat.le_refl _), if_neg (fun h => by rw [hb] at h; cases h.2.2)] at h2
            exact h2.symm
          · unfold shU
            rw [if_neg (fun h => by rw [hb] at h; cases h.2)]; exact h1.2
        · refine ⟨((hJ q hq).2 hb).1, ?_⟩
          unfold shU
          rw [if_pos ⟨hq, hb⟩]
          exact perm_of (hR q hq).1 (hE.1.1.2.1.at (3 * q)).2.1 (fun t => (hMt q hq t).symm)
    | has h => omega
    | list h => omega
    | bad h => omega
  | has1 hk hc ht =>
    have hi := ckT_in hc
    have hq : op.pred.toNat < p.P.length := by have := hi.1; have := hi.2; omega
    cases hp with
    | skip h => omega
    | fact h => omega
    | drop h => omega
    | over h => omega
    | runs h => omega
    | has =>
      refine ⟨hc, ?_, List.Perm.refl _, hJ, by simp⟩
      have h1 : (if ckT p op.pred op.t ≠ 0 then false else decide (op.t ∈ rowsAt S (3 * op.pred.toNat))) = true := by
        rw [if_neg (fun h => h hc)]; exact decide_eq_true ((hJ.rows hq).mem_iff.1 ht)
      rw [if_pos h1]
    | list h => omega
    | bad h => omega
  | has0 hk hc ht =>
    have hi := ckT_in hc
    have hq : op.pred.toNat < p.P.length := by have := hi.1; have := hi.2; omega
    cases hp with
    | skip h => omega
    | fact h => omega
    | drop h => omega
    | over h => omega
    | runs h => omega
    | has =>
      refine ⟨hc, ?_, List.Perm.refl _, hJ, by simp⟩
      have h1 : ¬ (if ckT p op.pred op.t ≠ 0 then false else decide (op.t ∈ rowsAt S (3 * op.pred.toNat))) = true := by
        rw [if_neg (fun h => h hc)]
        intro h
        exact ht ((hJ.rows hq).mem_iff.2 (of_decide_eq_true h))
      rw [if_neg h1]
    | list h => omega
    | bad h => omega
  | hasb hk hc =>
    cases hp with
    | skip h => omega
    | fact h => omega
    | drop h => omega
    | over h => omega
    | runs h => omega
    | has =>
      refine ⟨rfl, ?_, List.Perm.refl _, hJ, by simp⟩
      have h1 : ¬ (if ckT p op.pred op.t ≠ 0 then false else decide (op.t ∈ rowsAt S (3 * op.pred.toNat))) = true := by
        rw [if_pos hc]; decide
      rw [if_neg h1]
    | list h => omega
    | bad h => omega
  | list hk hi =>
    have hq : op.pred.toNat < p.P.length := by have := hi.1; have := hi.2; omega
    cases hp with
    | skip h => omega
    | fact h => omega
    | drop h => omega
    | over h => omega
    | runs h => omega
    | has h => omega
    | list =>
      rw [if_pos hi, if_pos hi]
      exact ⟨rfl, rfl, hJ.rows hq, hJ, (hS.1.1.2.1.at (3 * op.pred.toNat)).1⟩
    | bad h => omega
  | listb hk hi =>
    cases hp with
    | skip h => omega
    | fact h => omega
    | drop h => omega
    | over h => omega
    | runs h => omega
    | has h => omega
    | list =>
      rw [if_neg hi, if_neg hi]
      exact ⟨rfl, rfl, List.Perm.refl _, hJ, by simp⟩
    | bad h => omega
  | bad hk =>
    cases hp with
    | skip h => omega
    | fact h => omega
    | drop h => omega
    | over h => omega
    | runs h => omega
    | has h => omega
    | list h => omega
    | bad => exact ⟨rfl, rfl, List.Perm.refl _, hJ, by simp⟩
end Go.Proofs.Qxb6500788a
