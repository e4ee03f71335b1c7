import Derived.Test.Qxb6500788aJl
import Derived.StillTailTactics
import Derived.Deep.QuietTactic
import Derived.BigQuiet
import Derived.Deep.RegionHeld
import Derived.Deep.CutRange
import Derived.Laws.ResultCell
import Derived.Laws.Rows
import Derived.DeepKeys
import Derived.DataBytes
import Derived.Laws.StructEq
import Derived.Laws.AppendOwn
import Derived.Laws.MakeOwn
set_option linter.unusedSimpArgs false
set_option linter.unusedVariables false
namespace Go.Proofs.Qxb6500788a
open Go.RowKit Go.Blk
attribute [local go_sem ↓] execOp_load execOp_store execOp_alloc
attribute [local go_sem] Try.ld24 Try.st24 Try.ld25 Try.st25 Try.ld3 Try.st3 Try.ld30 Try.st30 Try.ld36 Try.st36 Try.ld4 Try.st4 Try.ld41 Try.st41 Try.ld50 Try.st50 Try.ld40 Try.st40 Try.ld42 Try.st42 Try.ld89 Try.st89 Try.ld91 Try.st91 Try.ld56 Try.st56 Try.ld97 Try.st97 Try.ld98 Try.st98 Try.ld101 Try.st101 Try.ld104 Try.st104 Try.ld57 Try.st57 Try.ld130 Try.st130 Try.ld2 Try.st2 Try.ld5 Try.st5 Try.ld9 Try.st9 Try.ld12 Try.st12 Try.ld21 Try.st21 Try.ld22 Try.st22 Try.ld29 Try.st29 Try.ld33 Try.st33 Try.ld59 Try.st59 Try.ld62 Try.st62 Try.ld69 Try.st69 Try.ld94 Try.st94 Try.ld96 Try.st96 Try.ld129 Try.st129 Try.ld158 Try.st158 Try.ld162 Try.st162 Try.ld47 Try.st47 Try.ld44 Try.st44 Try.ld137 Try.st137 Try.ld145 Try.st145 Try.ld43 Try.st43 Try.ld27 Try.st27 Try.ld38 Try.st38 Try.ld46 Try.st46 Try.ld49 Try.st49 Try.ld52 Try.st52 Try.ld54 Try.st54 Try.ld61 Try.st61 Try.ld80 Try.st80 Try.ld87 Try.st87 Try.ld93 Try.st93 Try.ld100 Try.st100 Try.ld103 Try.st103 Try.ld106 Try.st106 Try.ld109 Try.st109 Try.ld132 Try.st132 Try.ld147 Try.st147 Try.al47 Try.al44 Try.al137 Try.al145 Try.al43 Try.al27 Try.al38 Try.al46 Try.al49 Try.al52 Try.al54 Try.al61 Try.al80 Try.al87 Try.al93 Try.al100 Try.al103 Try.al106 Try.al109 Try.al132 Try.al147
attribute [local go_sem] GProgram.length_enc GProgram.ok_enc GProgram.all_get GProgram.all_set GProgram.preds_get GProgram.preds_set GProgram.rules_get GProgram.rules_set GProgram.strata_get GProgram.strata_set Answer.length_enc Answer.ok_enc Answer.all_get Answer.all_set Answer.code_get Answer.code_set Answer.n_get Answer.n_set Answer.rows_get Answer.rows_set Term.length_enc Term.ok_enc Term.all_get Term.all_set Term.var_get Term.var_set Term.n_get Term.n_set Atom.length_enc Atom.ok_enc Atom.all_get Atom.all_set Atom.pred_get Atom.pred_set Atom.args_get Atom.args_set GRule.length_enc GRule.ok_enc GRule.all_get GRule.all_set GRule.head_get GRule.head_set GRule.body_get GRule.body_set GRule.head_pred_get GRule.head_pred_set GRule.head_args_get GRule.head_args_set GOp.length_enc GOp.ok_enc GOp.all_get GOp.all_set GOp.kind_get GOp.kind_set GOp.pred_get GOp.pred_set GOp.t_get GOp.t_set GOp.n_get GOp.n_set GOp.base_get GOp.base_set GOp.rule_get GOp.rule_set GOp.rule_head_get GOp.rule_head_set GOp.rule_body_get GOp.rule_body_set GOp.rule_head_pred_get GOp.rule_head_pred_set GOp.rule_head_args_get GOp.rule_head_args_set PredInfo.length_enc PredInfo.ok_enc PredInfo.all_get PredInfo.all_set PredInfo.arity_get PredInfo.arity_set PredInfo.base_get PredInfo.base_set PredInfo.stratum_get PredInfo.stratum_set GStats.length_enc GStats.ok_enc GStats.all_get GStats.all_set GStats.rounds_get GStats.rounds_set GStats.fired_get GStats.fired_set GStats.emitted_get GStats.emitted_set GStats.fresh_get GStats.fresh_set Literal.length_enc Literal.ok_enc Literal.all_get Literal.all_set Literal.neg_get Literal.neg_set Literal.atom_get Literal.atom_set Literal.atom_pred_get Literal.atom_pred_set Literal.atom_args_get Literal.atom_args_set Engine.length_enc Engine.ok_enc Engine.all_get Engine.all_set Engine.prog_get Engine.prog_set Engine.st_get Engine.st_set Engine.levels_get Engine.levels_set Engine.running_get Engine.running_set Engine.stratum_get Engine.stratum_set Engine.round_get Engine.round_set Engine.saved_get Engine.saved_set Engine.stats_get Engine.stats_set Engine.prog_preds_get Engine.prog_preds_set Engine.prog_rules_get Engine.prog_rules_set Engine.prog_strata_get Engine.prog_strata_set Engine.stats_rounds_get Engine.stats_rounds_set Engine.stats_fired_get Engine.stats_fired_set Engine.stats_emitted_get Engine.stats_emitted_set Engine.stats_fresh_get Engine.stats_fresh_set Level.length_enc Level.ok_enc Level.all_get Level.all_set Level.heads_get Level.heads_set Level.jobs_get Level.jobs_set Plan.length_enc Plan.ok_enc Plan.all_get Plan.all_set Plan.rule_get Plan.rule_set Plan.delta_get Plan.delta_set Plan.src_get Plan.src_set Job.length_enc Job.ok_enc Job.all_get Job.all_set Job.full_get Job.full_set Job.deltas_get Job.deltas_set Job.full_rule_get Job.full_rule_set Job.full_delta_get Job.full_delta_set Job.full_src_get Job.full_src_set GState.length_enc GState.ok_enc GState.all_get GState.all_set GState.prog_get GState.prog_set GState.base_get GState.base_set GState.shown_get GState.shown_set GState.prog_preds_get GState.prog_preds_set GState.prog_rules_get GState.prog_rules_set GState.prog_strata_get GState.prog_strata_set Store.length_enc Store.ok_enc Store.all_get Store.all_set Store.arity_get Store.arity_set Store.rows_get Store.rows_set Env.length_enc Env.ok_enc Env.all_get Env.all_set Env.val_get Env.val_set Env.set_get Env.set_set
attribute [local go_sem] size_put size_ext blk_put free_put blk_alloc free_alloc blk_drew free_drew blk_ext free_ext lookOr_some putOr_some segAt_some cellAt_some storeIn_some put_put put_alloc_new length_arr ok_arr_u8 ok_arr_u32 ok_arr_u64 ok_arr_i64 ok_arr_sl cellsV_agg cellsV_int cellsV_bool cellsV_string cellsV_pointer cellsV_slice cellsV_sl ok_int ok_bool ok_string ok_pointer ok_slice ok_sl toList_arr seg_arr set_arr nth_splice nth_splice0 seg_splice seg_splice0 splice_splice splice_splice0 length_splice_if
attribute [local go_sem ↓] execOp_box
attribute [local go_sem] box_run nth_arr_u8 put_arr_u8 blk_drewN free_drewN put_drewN blk_raw free_raw
/-- A predicate that a stratum's rules only read. -/
def LowP (p : Pg) (s : Nat) (q : Nat) : Prop := basP p q = true ∨ strP p q < (s : Int)
/-- A predicate that the stratum fills. -/
def OwnP (p : Pg) (s : Nat) (q : Nat) : Prop := q < p.P.length ∧ basP p q = false ∧ strP p q = (s : Int)
theorem jobs_own {p : Pg} (hok : PgOk p) {s k : Nat} (h : k ∈ jobsOf p s) : OwnP p s (hP p k) := by
  obtain ⟨h1, h2, h3, _⟩ := jobs_head hok h
  exact mem_heads.1 h1
theorem own_low {p : Pg} {s q : Nat} (h : OwnP p s q) : ¬ LowP p s q := fun hl => by
  rcases hl with h1 | h1
  · rw [h.2.1] at h1; cases h1
  · rw [h.2.2] at h1; omega
/-- A rule of the stratum: consequences grow with the stratum's own relations. -/
theorem con_mono {p : Pg} (hok : PgOk p) {s k : Nat} (hk : k ∈ jobsOf p s) {F G : Nat → Tup → Prop} (hl : ∀ q, q < p.P.length → LowP p s q → ∀ t, F q t ↔ G q t) (ho : ∀ q, OwnP p s q → ∀ t, F q t → G q t) {t : Tup} (h : Con p k F t) : Con p k G t := by
  obtain ⟨r, hr⟩ := jobs_r hk
  obtain ⟨σ, h1, h2⟩ := h
  refine ⟨σ, fun i l hil => ?_, h2⟩
  have hm := List.mem_of_getElem? hil
  have hq := lit_q hok hr hm
  have hlay := hok.lay k r hr l hm
  have hs : strP p r.head.pred.toNat = (s : Int) := by
    have := (mem_jobs hr (s := s)).1 hk
    have e : hP p k = r.head.pred.toNat := by show (hdP p k).pred.toNat = _; rw [hdP_some hr]
    rwa [e] at this
  rw [hs] at hlay
  by_cases hL : LowP p s l.atom.pred.toNat
  · rw [← hl _ hq hL]; exact h1 i l hil
  · have hO : OwnP p s l.atom.pred.toNat := by
      refine ⟨hq, ?_, ?_⟩
      · cases hb : basP p l.atom.pred.toNat with
        | false => rfl
        | true => exact absurd (.inl hb) hL
      · have : ¬ strP p l.atom.pred.toNat < (s : Int) := fun h => hL (.inr h)
        omega
    have hn : l.neg = false := by
      cases hn : l.neg with
      | false => rfl
      | true =>
        have := hlay.2 hn
        exact absurd (.inr this) hL
    exact ⟨fun _ => hn, fun _ => ho _ hO _ ((h1 i l hil).2 hn)⟩
theorem con_same {p : Pg} (hok : PgOk p) {s k : Nat} (hk : k ∈ jobsOf p s) {F G : Nat → Tup → Prop} (hl : ∀ q, q < p.P.length → (LowP p s q ∨ OwnP p s q) → ∀ t, F q t ↔ G q t) {t : Tup} : Con p k F t ↔ Con p k G t :=
  ⟨con_mono hok hk (fun q hq h t => hl q hq (.inl h) t) (fun q h t => (hl q h.1 (.inr h) t).1), con_mono hok hk (fun q hq h t => (hl q hq (.inl h) t).symm) (fun q h t => (hl q h.1 (.inr h) t).2)⟩
/-- What a finished run has made of the strata from s on. -/
structure FinR (p : Pg) (s : Nat) (S E : List (List Tup)) : Prop where
  low : ∀ q, q < p.P.length → LowP p s q → ∀ t, t ∈ rowsAt E (3 * q) ↔ t ∈ rowsAt S (3 * q)
  grow : ∀ q, OwnP p s q → ∀ t, t ∈ rowsAt S (3 * q) → t ∈ rowsAt E (3 * q)
  closed : ∀ s', s ≤ s' → s' < p.St → ∀ k ∈ jobsOf p s', ∀ t, Con p k (fulS E) t → t ∈ rowsAt E (3 * hP p k)
  least : ∀ s', s ≤ s' → s' < p.St → ∀ X : Nat → Tup → Prop, (∀ q, q < p.P.length → LowP p s' q → ∀ t, X q t ↔ t ∈ rowsAt E (3 * q)) → (s' = s → ∀ q, OwnP p s q → ∀ t, t ∈ rowsAt S (3 * q) → X q t) → (∀ k ∈ jobsOf p s', ∀ t, Con p k X t → X (hP p k) t) → ∀ q, OwnP p s' q → ∀ t, t ∈ rowsAt E (3 * q) → X q t
def AboveP (p : Pg) (s : Nat) (S : List (List Tup)) : Prop := ∀ q, q < p.P.length → basP p q = false → (s : Int) < strP p q → rowsAt S (3 * q) = []
theorem low_up {p : Pg} {s q : Nat} (h : LowP p s q) : LowP p (s + 1) q := by
  rcases h with h | h
  · exact .inl h
  · refine .inr ?_
    omega
theorem own_up {p : Pg} {s q : Nat} (h : OwnP p s q) : LowP p (s + 1) q := .inr (by rw [h.2.2]; omega)
theorem runs_fin {p : Pg} (hok : PgOk p) {s rn : Nat} {σ : StQ} {r : Option StQ} (h : RunsTo p s rn σ r) : ∀ τ, r = some τ → RInv p s rn σ.1 → AboveP p s σ.1 → FinR p s σ.1 τ.1 := by
  have same : ∀ {s rn : Nat} {σ σ' : StQ}, RInv p s rn σ.1 → jobsO p s rn σ = some σ' → (∀ q, q < p.P.length → ¬ OwnP p s q → ∀ t, t ∈ rowsAt (promL σ'.1 (headsOf p s)) (3 * q) ↔ t ∈ rowsAt σ.1 (3 * q)) ∧ (anyN σ'.1 (headsOf p s) = false → ∀ q, q < p.P.length → ∀ t, t ∈ rowsAt (promL σ'.1 (headsOf p s)) (3 * q) ↔ t ∈ rowsAt σ.1 (3 * q)) := by
    intro s rn σ σ' hR hj
    obtain ⟨_, a1, a2, _⟩ := round_law hok hR hj
    refine ⟨fun q hq hn t => ?_, fun ha q hq t => ?_⟩
    · rw [a1 q t hq]
      refine ⟨fun h => h.elim id (fun ⟨k, hk, hkq, _⟩ => absurd (hkq ▸ jobs_own hok hk) hn), .inl⟩
    · rw [a1 q t hq]
      refine ⟨fun h => h.elim id (fun ⟨k, hk, hkq, hc⟩ => ?_), .inl⟩
      refine Classical.byContradiction fun hnm => ?_
      have : anyN σ'.1 (headsOf p s) = true := a2.2 ⟨q, t, (new_con hok hR q t).2 ⟨hnm, k, hk, hkq, hc⟩⟩
      rw [ha] at this; cases this
  induction h with
  | over _ => intro τ e; cases e
  | @more s rn σ σ' r hj ha _ ih =>
    intro τ e hR hA
    obtain ⟨b1, a1, a2, _⟩ := round_law hok hR hj
    obtain ⟨s1, _⟩ := same hR hj
    have hA' : AboveP p s (promL σ'.1 (headsOf p s)) := fun q hq hb hs => by
      rw [round_rows hok hR.1 hj, if_neg (fun hh => by have := (mem_heads.1 hh).2.2; omega)]
      exact hA q hq hb hs
    have hF := ih τ e b1 hA'
    refine ⟨fun q hq hl t => (hF.low q hq hl t).trans (s1 q hq (fun ho => own_low ho hl) t), fun q ho t ht => hF.grow q ho t ((a1 q t ho.1).2 (.inl ht)), hF.closed, fun s' h1 h2 X x1 x2 x3 => ?_⟩
    refine hF.least s' h1 h2 X x1 (fun e' q ho t ht => ?_) x3
    subst e'
    rcases (a1 q t ho.1).1 ht with h3 | ⟨k, hk, hkq, hc⟩
    · exact x2 rfl q ho t h3
    · rw [← hkq]
      refine x3 k hk t (con_mono hok hk (fun q' hq' hl' t' => ?_) (fun q' ho' t' ht' => x2 rfl q' ho' t' ht') hc)
      rw [x1 q' hq' hl' t', hF.low q' hq' hl' t', s1 q' hq' (fun ho => own_low ho hl') t']
  | @next s rn σ σ' r hj ha hlt _ ih =>
    intro τ e hR hA
    obtain ⟨b1, a1, a2, _⟩ := round_law hok hR hj
    obtain ⟨s1, s2⟩ := same hR hj
    have s2 := s2 ha
    have hA' : AboveP p (s + 1) (promL σ'.1 (headsOf p s)) := fun q hq hb hs => by
      rw [round_rows hok hR.1 hj, if_neg (fun hh => by have := (mem_heads.1 hh).2.2; omega)]
      exact hA q hq hb (by omega)
    have hF := ih τ e b1.next hA'
    have hlow : ∀ q, q < p.P.length → LowP p (s + 1) q → ∀ t, t ∈ rowsAt τ.1 (3 * q) ↔ t ∈ rowsAt σ.1 (3 * q) := fun q hq hl t => (hF.low q hq hl t).trans (s2 q hq t)
    refine ⟨fun q hq hl t => hlow q hq (low_up hl) t, fun q ho t ht => (hlow q ho.1 (own_up ho) t).2 ht, fun s' h1 h2 k hk t hc => ?_, fun s' h1 h2 X x1 x2 x3 q ho t ht => ?_⟩
    · by_cases hs : s' = s
      · subst hs
        have ho := jobs_own hok hk
        rw [hlow _ ho.1 (own_up ho), ← s2 _ ho.1, a1 _ _ ho.1]
        refine .inr ⟨k, hk, rfl, ?_⟩
        refine (con_same hok hk (fun q hq h t => ?_)).1 hc
        exact hlow q hq (h.elim low_up own_up) t
      · exact hF.closed s' (by omega) h2 k hk t hc
    · by_cases hs : s' = s
      · subst hs
        exact x2 rfl q ho t ((hlow q ho.1 (own_up ho) t).1 ht)
      · refine hF.least s' (by omega) h2 X x1 (fun _ q2 ho2 t2 ht2 => ?_) x3 q ho t ht
        have h8 := ho2.2.2
        have : rowsAt (promL σ'.1 (headsOf p s)) (3 * q2) = [] := by
          rw [round_rows hok hR.1 hj, if_neg (fun hh => by have h9 := (mem_heads.1 hh).2.2; omega)]
          exact hA q2 ho2.1 ho2.2.1 (by omega)
        rw [this] at ht2; cases ht2
  | @done s rn σ σ' hj ha hlt =>
    intro τ e hR hA
    obtain rfl := Option.some.inj e
    obtain ⟨b1, a1, a2, _⟩ := round_law hok hR hj
    obtain ⟨s1, s2⟩ := same hR hj
    have s2 := s2 ha
    refine ⟨fun q hq hl t => s2 q hq t, fun q ho t ht => (s2 q ho.1 t).2 ht, fun s' h1 h2 k hk t hc => ?_, fun s' h1 h2 X x1 x2 x3 q ho t ht => ?_⟩
    · obtain rfl : s' = s := by omega
      have ho := jobs_own hok hk
      show t ∈ rowsAt (promL σ'.1 (headsOf p s')) (3 * hP p k)
      rw [a1 _ _ ho.1]
      exact .inr ⟨k, hk, rfl, (con_same hok hk (fun q hq _ t => s2 q hq t)).1 hc⟩
    · obtain rfl : s' = s := by omega
      exact x2 rfl q ho t ((s2 q ho.1 t).1 ht)
theorem run_fin {p : Pg} (hok : PgOk p) {S : List (List Tup)} (hS : EngI p S) {τ : StQ} (h : RunsTo p 0 0 (begS p S p.P.length, ⟨0, 0, 0, 0⟩) (some τ)) : FinR p 0 (begS p S p.P.length) τ.1 := by
  refine runs_fin hok h τ rfl hS.beg.1 (fun q hq hb _ => ?_)
  have := begS_rows (p := p) (S := S) hS.1.1.1 (r := 3 * q) (q := q) (j := 0) rfl (by omega) p.P.length (Nat.le_refl _)
  rw [this, if_pos ⟨hq, rfl, hb⟩]
/-- The full relations of a state. -/
abbrev allT (E : List (List Tup)) : Nat → List Tup := fun q => rowsAt E (3 * q)
theorem allT_relI {p : Pg} {E : List (List Tup)} (h : EngI p E) : RelI p (allT E) := fun q _ => (h.1.1.2.1.at (3 * q)).2
/-- One more round adds nothing. -/
theorem fin_round {p : Pg} (hok : PgOk p) {S E : List (List Tup)} (hF : FinR p 0 S E) (hE : EngI p E) {s : Nat} (hs : s < p.St) {T1 : Nat → List Tup} (h : NR p s (allT E) T1) : cntT T1 p.P.length = cntT (allT E) p.P.length := by
  refine (cntT_eq _ (h.len (allT_relI hE))).2 (fun q hq => ?_)
  refine Nat.le_antisymm (h.len (allT_relI hE) q hq) (nodup_sub_len (h q hq).1.1 (fun t ht => ?_))
  rcases ((h q hq).2 t).1 ht with h1 | ⟨k, hk, hkq, hc⟩
  · exact h1
  · rw [← hkq]
    exact hF.closed s (Nat.zero_le _) hs k hk t hc
/-- The lower relations. -/
def lowT (p : Pg) (s : Nat) (E : List (List Tup)) : Nat → List Tup := fun q => if basP p q = true ∨ strP p q < (s : Int) then rowsAt E (3 * q) else []
structure BetP (p : Pg) (s : Nat) (E : List (List Tup)) (T : Nat → List Tup) : Prop where
  ok : RelI p T
  low : ∀ q, q < p.P.length → LowP p s q → ∀ t, t ∈ T q ↔ t ∈ rowsAt E (3 * q)
  sub : ∀ q, q < p.P.length → ∀ t, t ∈ T q → t ∈ rowsAt E (3 * q)
theorem bet_low {p : Pg} {s : Nat} {E : List (List Tup)} (hE : EngI p E) : BetP p s E (lowT p s E) := by
  refine ⟨fun q hq => ?_, fun q hq hl t => ?_, fun q hq t ht => ?_⟩
  · unfold lowT
    by_cases h : basP p q = true ∨ strP p q < (s : Int)
    · rw [if_pos h]; exact allT_relI hE q hq
    · rw [if_neg h]; exact outOk_nil
  · unfold lowT
    have hl' : basP p q = true ∨ strP p q < (s : Int) := hl
    rw [if_pos hl']
  · unfold lowT at ht
    by_cases h : basP p q = true ∨ strP p q < (s : Int)
    · rw [if_pos h] at ht; exact ht
    · rw [if_neg h] at ht; cases ht
theorem BetP.round {p : Pg} (hok : PgOk p) {S E : List (List Tup)} (hF : FinR p 0 S E) {s : Nat} (hs : s < p.St) {T T1 : Nat → List Tup} (hB : BetP p s E T) (h : NR p s T T1) : BetP p s E T1 := by
  refine ⟨h.relI, fun q hq hl t => ?_, fun q hq t ht => ?_⟩
  · rw [(h q hq).2 t, hB.low q hq hl t]
    exact ⟨fun h1 => h1.elim id (fun ⟨k, hk, hkq, _⟩ => absurd hl (own_low (hkq ▸ jobs_own hok hk))), .inl⟩
  · rcases ((h q hq).2 t).1 ht with h1 | ⟨k, hk, hkq, hc⟩
    · exact hB.sub q hq t h1
    · rw [← hkq]
      exact hF.closed s (Nat.zero_le _) hs k hk t (con_mono hok hk (fun q' hq' hl' t' => hB.low q' hq' hl' t') (fun q' ho' t' ht' => hB.sub q' ho'.1 t' ht') hc)
/-- The stratum's naive fixpoint is the engine's. -/
theorem fin_least {p : Pg} (hok : PgOk p) {S E : List (List Tup)} (hF : FinR p 0 S E) (hE : EngI p E) (hS0 : ∀ q, OwnP p 0 q → rowsAt S (3 * q) = []) {s : Nat} (hs : s < p.St) {T T2 : Nat → List Tup} (h : FixTo p s T T2) (hB : BetP p s E T) : ∀ q, OwnP p s q → (T2 q).Perm (rowsAt E (3 * q)) := by
  have hnov : ∀ {T1 : Nat → List Tup}, BetP p s E T1 → ¬ OvrT p.P.length T1 := fun hB' ⟨q, hq, hl⟩ => by
    have h1 := nodup_sub_len (hB'.ok q hq).1 (fun t ht => hB'.sub q hq t ht)
    have h2 := (hE.1.1.2.1.at (3 * q)).1
    omega
  induction h with
  | @stop T T1 hN hc =>
    have hB1 := hB.round hok hF hs hN
    have hcnt : cntT T1 p.P.length = cntT T p.P.length := hc.elim id (fun ho => absurd ho (hnov hB1))
    have hlen := (cntT_eq _ (hN.len hB.ok)).1 hcnt
    have hback : ∀ q, q < p.P.length → ∀ t, t ∈ T1 q → t ∈ T q := fun q hq t ht => by
      refine Classical.byContradiction fun hn => ?_
      have h1 : (t :: T q).Nodup := List.nodup_cons.2 ⟨hn, (hB.ok q hq).1⟩
      have h2 := nodup_sub_len h1 (M := T1 q) (fun u hu => by
        rcases List.mem_cons.1 hu with rfl | hu
        · exact ht
        · exact ((hN q hq).2 u).2 (.inl hu))
      have h3 := hlen q hq
      rw [List.length_cons] at h2
      omega
    intro q ho
    refine perm_of (hB1.ok q ho.1).1 (hE.1.1.2.1.at (3 * q)).2.1 (fun t => ⟨hB1.sub q ho.1 t, ?_⟩)
    refine hF.least s (Nat.zero_le _) hs (fun q t => t ∈ T1 q) (fun q hq hl t => hB1.low q hq hl t) (fun e q2 ho2 t2 ht2 => ?_) (fun k hk t hc => ?_) q ho t
    · rw [hS0 q2 ho2] at ht2; cases ht2
    · have hoh := jobs_own hok hk
      refine ((hN _ hoh.1).2 t).2 (.inr ⟨k, hk, rfl, ?_⟩)
      exact (con_same hok hk (fun q hq _ t => ⟨fun h => hback q hq t h, fun h => ((hN q hq).2 t).2 (.inl h)⟩)).1 hc
  | @more T T1 T2 hN _ _ _ ih => exact ih (hB.round hok hF hs hN)
end Go.Proofs.Qxb6500788a
