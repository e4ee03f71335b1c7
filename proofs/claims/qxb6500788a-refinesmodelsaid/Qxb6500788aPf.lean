import Derived.Test.Qxb6500788aPe
import Derived.Test.Qxb6500788aQd
import Derived.StillTailTactics
import Derived.Deep.QuietTactic
import Derived.BigQuiet
import Derived.Deep.RegionHeld
import Derived.Deep.CutRange
import Derived.Laws.ResultCell
import Derived.Laws.Rows
import Derived.DeepKeys
import Derived.DataBytes
import Derived.Laws.StructEq
import Derived.Laws.AppendOwn
import Derived.Laws.MakeOwn
set_option linter.unusedSimpArgs false
set_option linter.unusedVariables false
namespace Go.Proofs.Qxb6500788a
open Go.RowKit Go.Blk
attribute [local go_sem ↓] execOp_load execOp_store execOp_alloc
attribute [local go_sem] Try.ld24 Try.st24 Try.ld25 Try.st25 Try.ld3 Try.st3 Try.ld30 Try.st30 Try.ld36 Try.st36 Try.ld4 Try.st4 Try.ld41 Try.st41 Try.ld50 Try.st50 Try.ld40 Try.st40 Try.ld42 Try.st42 Try.ld89 Try.st89 Try.ld91 Try.st91 Try.ld56 Try.st56 Try.ld97 Try.st97 Try.ld98 Try.st98 Try.ld101 Try.st101 Try.ld104 Try.st104 Try.ld57 Try.st57 Try.ld130 Try.st130 Try.ld2 Try.st2 Try.ld5 Try.st5 Try.ld9 Try.st9 Try.ld12 Try.st12 Try.ld21 Try.st21 Try.ld22 Try.st22 Try.ld29 Try.st29 Try.ld33 Try.st33 Try.ld59 Try.st59 Try.ld62 Try.st62 Try.ld69 Try.st69 Try.ld94 Try.st94 Try.ld96 Try.st96 Try.ld129 Try.st129 Try.ld158 Try.st158 Try.ld162 Try.st162 Try.ld47 Try.st47 Try.ld44 Try.st44 Try.ld137 Try.st137 Try.ld145 Try.st145 Try.ld43 Try.st43 Try.ld27 Try.st27 Try.ld38 Try.st38 Try.ld46 Try.st46 Try.ld49 Try.st49 Try.ld52 Try.st52 Try.ld54 Try.st54 Try.ld61 Try.st61 Try.ld80 Try.st80 Try.ld87 Try.st87 Try.ld93 Try.st93 Try.ld100 Try.st100 Try.ld103 Try.st103 Try.ld106 Try.st106 Try.ld109 Try.st109 Try.ld132 Try.st132 Try.ld147 Try.st147 Try.al47 Try.al44 Try.al137 Try.al145 Try.al43 Try.al27 Try.al38 Try.al46 Try.al49 Try.al52 Try.al54 Try.al61 Try.al80 Try.al87 Try.al93 Try.al100 Try.al103 Try.al106 Try.al109 Try.al132 Try.al147
attribute [local go_sem] GProgram.length_enc GProgram.ok_enc GProgram.all_get GProgram.all_set GProgram.preds_get GProgram.preds_set GProgram.rules_get GProgram.rules_set GProgram.strata_get GProgram.strata_set Answer.length_enc Answer.ok_enc Answer.all_get Answer.all_set Answer.code_get Answer.code_set Answer.n_get Answer.n_set Answer.rows_get Answer.rows_set Term.length_enc Term.ok_enc Term.all_get Term.all_set Term.var_get Term.var_set Term.n_get Term.n_set Atom.length_enc Atom.ok_enc Atom.all_get Atom.all_set Atom.pred_get Atom.pred_set Atom.args_get Atom.args_set GRule.length_enc GRule.ok_enc GRule.all_get GRule.all_set GRule.head_get GRule.head_set GRule.body_get GRule.body_set GRule.head_pred_get GRule.head_pred_set GRule.head_args_get GRule.head_args_set GOp.length_enc GOp.ok_enc GOp.all_get GOp.all_set GOp.kind_get GOp.kind_set GOp.pred_get GOp.pred_set GOp.t_get GOp.t_set GOp.n_get GOp.n_set GOp.base_get GOp.base_set GOp.rule_get GOp.rule_set GOp.rule_head_get GOp.rule_head_set GOp.rule_body_get GOp.rule_body_set GOp.rule_head_pred_get GOp.rule_head_pred_set GOp.rule_head_args_get GOp.rule_head_args_set PredInfo.length_enc PredInfo.ok_enc PredInfo.all_get PredInfo.all_set PredInfo.arity_get PredInfo.arity_set PredInfo.base_get PredInfo.base_set PredInfo.stratum_get PredInfo.stratum_set GStats.length_enc GStats.ok_enc GStats.all_get GStats.all_set GStats.rounds_get GStats.rounds_set GStats.fired_get GStats.fired_set GStats.emitted_get GStats.emitted_set GStats.fresh_get GStats.fresh_set Literal.length_enc Literal.ok_enc Literal.all_get Literal.all_set Literal.neg_get Literal.neg_set Literal.atom_get Literal.atom_set Literal.atom_pred_get Literal.atom_pred_set Literal.atom_args_get Literal.atom_args_set Engine.length_enc Engine.ok_enc Engine.all_get Engine.all_set Engine.prog_get Engine.prog_set Engine.st_get Engine.st_set Engine.levels_get Engine.levels_set Engine.running_get Engine.running_set Engine.stratum_get Engine.stratum_set Engine.round_get Engine.round_set Engine.saved_get Engine.saved_set Engine.stats_get Engine.stats_set Engine.prog_preds_get Engine.prog_preds_set Engine.prog_rules_get Engine.prog_rules_set Engine.prog_strata_get Engine.prog_strata_set Engine.stats_rounds_get Engine.stats_rounds_set Engine.stats_fired_get Engine.stats_fired_set Engine.stats_emitted_get Engine.stats_emitted_set Engine.stats_fresh_get Engine.stats_fresh_set Level.length_enc Level.ok_enc Level.all_get Level.all_set Level.heads_get Level.heads_set Level.jobs_get Level.jobs_set Plan.length_enc Plan.ok_enc Plan.all_get Plan.all_set Plan.rule_get Plan.rule_set Plan.delta_get Plan.delta_set Plan.src_get Plan.src_set Job.length_enc Job.ok_enc Job.all_get Job.all_set Job.full_get Job.full_set Job.deltas_get Job.deltas_set Job.full_rule_get Job.full_rule_set Job.full_delta_get Job.full_delta_set Job.full_src_get Job.full_src_set GState.length_enc GState.ok_enc GState.all_get GState.all_set GState.prog_get GState.prog_set GState.base_get GState.base_set GState.shown_get GState.shown_set GState.prog_preds_get GState.prog_preds_set GState.prog_rules_get GState.prog_rules_set GState.prog_strata_get GState.prog_strata_set Store.length_enc Store.ok_enc Store.all_get Store.all_set Store.arity_get Store.arity_set Store.rows_get Store.rows_set Env.length_enc Env.ok_enc Env.all_get Env.all_set Env.val_get Env.val_set Env.set_get Env.set_set
attribute [local go_sem] size_put size_ext blk_put free_put blk_alloc free_alloc blk_drew free_drew blk_ext free_ext lookOr_some putOr_some segAt_some cellAt_some storeIn_some put_put put_alloc_new length_arr ok_arr_u8 ok_arr_u32 ok_arr_u64 ok_arr_i64 ok_arr_sl cellsV_agg cellsV_int cellsV_bool cellsV_string cellsV_pointer cellsV_slice cellsV_sl ok_int ok_bool ok_string ok_pointer ok_slice ok_sl toList_arr seg_arr set_arr nth_splice nth_splice0 seg_splice seg_splice0 splice_splice splice_splice0 length_splice_if
attribute [local go_sem ↓] execOp_box
attribute [local go_sem] box_run nth_arr_u8 put_arr_u8 blk_drewN free_drewN put_drewN blk_raw free_raw
/-- The engine at rest. -/
def EngI (p : Pg) (S : List (List Tup)) : Prop := Idle p S ∧ PadS p S
theorem ckT_zero {p : Pg} {q : Int} {t : Tup} (h : ckT p q t = 0) : inT p q ∧ (∀ c, c < arP p q.toNat → 0 ≤ tg t c ∧ tg t c < 256) ∧ ∀ c, arP p q.toNat ≤ c → c < 4 → tg t c = 0 := by
  unfold ckT at h
  by_cases h1 : inT p q
  · rw [if_pos h1] at h
    by_cases h2 : SymB p q.toNat t
    · rw [if_pos h2] at h; cases h
    · rw [if_neg h2] at h
      by_cases h3 : PadB p q.toNat t
      · rw [if_pos h3] at h; cases h
      · refine ⟨h1, fun c hc => Classical.byContradiction fun hn => h2 ⟨c, hc, hn⟩, fun c hc hc4 => Classical.byContradiction fun hn => h3 ⟨c, hc, hc4, hn⟩⟩
  · rw [if_neg h1] at h; cases h
theorem ckT_ok {p : Pg} {q : Nat} (hq : q < p.P.length) {t : Tup} (h1 : TOk t) (h2 : ∀ c, (p.P.getD q ⟨0, false, 0⟩).arity.toNat ≤ c → c < 4 → tg t c = 0) (h4 : arP p q ≤ 4) : ckT p (q : Int) t = 0 := by
  unfold ckT
  rw [if_pos ⟨by omega, by omega⟩, Int.toNat_natCast, if_neg, if_neg]
  · rintro ⟨c, hc, hc4, hn⟩
    exact hn (h2 c hc hc4)
  · rintro ⟨c, hc, hn⟩
    exact hn (h1 c (by omega))
theorem engI_set {p : Pg} {S : List (List Tup)} (h : EngI p S) {q : Nat} (hq : q < p.P.length) {L : List Tup} (h1 : L.length ≤ 512 ∧ OutOk L) (h2 : ∀ t ∈ L, ∀ c, (p.P.getD q ⟨0, false, 0⟩).arity.toNat ≤ c → c < 4 → tg t c = 0) : EngI p (S.set (3 * q) L) := by
  obtain ⟨⟨⟨a1, a2, a3⟩, a4⟩, a5⟩ := h
  refine ⟨⟨⟨by rw [List.length_set]; exact a1, sok_set a2 h1, fun z hz => ?_⟩, fun z hz => ?_⟩, fun z j hz hj t ht => ?_⟩
  · rw [rowsAt_set (by omega), if_neg (by omega)]; exact a3 z hz
  · rw [rowsAt_set (by omega), if_neg (by omega)]; exact a4 z hz
  · rw [rowsAt_set (by omega)] at ht
    by_cases he : 3 * z + j = 3 * q
    · rw [if_pos he] at ht
      have : z = q := by omega
      rw [this]; exact h2 t ht
    · rw [if_neg he] at ht
      exact a5 z j hz hj t ht
/-- While a run is under way: the deltas of other strata are empty. -/
def DE (p : Pg) (s rn : Nat) (S : List (List Tup)) : Prop := ∀ q, q < p.P.length → (rn = 0 ∨ q ∉ headsOf p s) → rowsAt S (3 * q + 1) = []
theorem de_round {p : Pg} (hok : PgOk p) {s rn : Nat} {σ σ' : StQ} (hR : RInv p s rn σ.1) (hD : DE p s rn σ.1) (h : jobsO p s rn σ = some σ') : DE p s (rn + 1) (promL σ'.1 (headsOf p s)) ∧ (anyN σ'.1 (headsOf p s) = false → ∀ q, q < p.P.length → rowsAt (promL σ'.1 (headsOf p s)) (3 * q + 1) = []) := by
  obtain ⟨j1, j2, j3, j4⟩ := jobs_new hok hR.1 hR.2.1 h
  have hrow : ∀ q, rowsAt (promL σ'.1 (headsOf p s)) (3 * q + 1) = if q ∈ headsOf p s then rowsAt σ'.1 (3 * q + 2) else rowsAt σ.1 (3 * q + 1) := fun q => by
    rw [prom_rows j2.1 (3 * q + 1) q 1 rfl (by omega)]
    by_cases hq : q ∈ headsOf p s
    · rw [if_pos hq, if_pos hq, if_neg (by omega), if_pos rfl]
    · rw [if_neg hq, if_neg hq]; exact (j3 q).2
  refine ⟨fun q hq hc => ?_, fun ha q hq => ?_⟩
  · have hn : q ∉ headsOf p s := hc.elim (fun h => absurd h (by omega)) id
    rw [hrow, if_neg hn]; exact hD q hq (.inr hn)
  · rw [hrow]
    by_cases hh : q ∈ headsOf p s
    · rw [if_pos hh]
      unfold anyN at ha
      rw [List.any_eq_false] at ha
      have := ha q hh
      cases hx : rowsAt σ'.1 (3 * q + 2) with
      | nil => rfl
      | cons a l => rw [hx] at this; simp at this
    · rw [if_neg hh]; exact hD q hq (.inr hh)
theorem runs_inv {p : Pg} (hok : PgOk p) {s rn : Nat} {σ : StQ} {r : Option StQ} (h : RunsTo p s rn σ r) : RInv p s rn σ.1 → DE p s rn σ.1 → ∀ τ, r = some τ → EngI p τ.1 := by
  induction h with
  | over _ => intro _ _ τ e; cases e
  | more h1 ha _ ih =>
    intro hR hD τ e
    exact ih (round_law hok hR h1).1 (de_round hok hR hD h1).1 τ e
  | next h1 ha _ _ ih =>
    intro hR hD τ e
    exact ih (round_law hok hR h1).1.next (fun q hq _ => (de_round hok hR hD h1).2 ha q hq) τ e
  | done h1 ha _ =>
    intro hR hD τ e
    injection e with e
    subst e
    have hr := (round_law hok hR h1).1
    exact ⟨⟨hr.1, fun q hq => (de_round hok hR hD h1).2 ha q hq⟩, hr.2.1⟩
theorem EngI.beg {p : Pg} {S : List (List Tup)} (h : EngI p S) : RInv p 0 0 (begS p S p.P.length) ∧ DE p 0 0 (begS p S p.P.length) := by
  refine ⟨⟨h.1.beg, fun q j hq hj t ht => ?_, fun h => absurd rfl h⟩, fun q hq _ => ?_⟩
  · rw [begS_rows h.1.1.1 (q := q) (j := j) rfl hj _ (Nat.le_refl _)] at ht
    by_cases hc : q < p.P.length ∧ j = 0 ∧ basP p q = false
    · rw [if_pos hc] at ht; cases ht
    · rw [if_neg hc] at ht; exact h.2 q j hq hj t ht
  · rw [begS_rows h.1.1.1 (q := q) (j := 1) rfl (by omega) _ (Nat.le_refl _), if_neg (by omega)]
    exact h.1.2 q hq
theorem ckF_zero {p : Pg} {q : Int} {t : Tup} (h : ckF p false q t = 0) : ckT p q t = 0 ∧ basP p q.toNat = true := by
  unfold ckF at h
  rw [if_neg (by decide)] at h
  by_cases h1 : ckT p q t = 0
  · rw [if_neg (fun h => h h1)] at h
    refine ⟨h1, ?_⟩
    cases hb : basP p q.toNat
    · rw [hb] at h; cases h
    · rfl
  · rw [if_pos h1] at h; exact absurd h h1
theorem tok_of {p : Pg} {q : Nat} {t : Tup} (h1 : ∀ c, c < arP p q → 0 ≤ tg t c ∧ tg t c < 256) (h2 : ∀ c, arP p q ≤ c → c < 4 → tg t c = 0) : TOk t := fun c hc => by
  by_cases h : c < arP p q
  · exact h1 c h
  · rw [h2 c (by omega) hc]; omega
theorem delL_sub (L : List Tup) (t : Tup) : (delL L t).Sublist L := by
  unfold delL restT
  by_cases h : t ∈ L
  · rw [if_pos h]; exact List.filter_sublist
  · rw [if_neg h]; exact List.Sublist.refl _
theorem play_inv {p : Pg} (hok : PgOk p) {S S' : List (List Tup)} {op : GOp} {cd nn : Int} {ts : List Tup} (h : EngI p S) (hp : PlayR p S op S' cd nn ts) : EngI p S' := by
  cases hp with
  | skip _ => exact h
  | fact _ =>
    unfold addS
    by_cases hc : ckF p false op.pred op.t = 0
    · rw [if_neg (fun h => h hc)]
      obtain ⟨c1, c2⟩ := ckF_zero hc
      obtain ⟨k1, k2, k3⟩ := ckT_zero c1
      have hq : op.pred.toNat < p.P.length := by have := k1.1; have := k1.2; omega
      obtain ⟨l1, l2⟩ := h.1.1.2.1.at (3 * op.pred.toNat)
      refine engI_set h hq ?_ ?_
      · unfold insL
        by_cases hm : op.t ∈ rowsAt S (3 * op.pred.toNat)
        · rw [if_pos hm]; exact ⟨l1, l2⟩
        · rw [if_neg hm]
          by_cases hf : (rowsAt S (3 * op.pred.toNat)).length = 512
          · rw [if_pos hf]; exact ⟨l1, l2⟩
          · rw [if_neg hf]
            refine ⟨by rw [List.length_append, List.length_singleton]; omega, ?_⟩
            have := l2.add (tok_of k2 k3)
            unfold addT at this
            rw [if_neg hm] at this
            exact this
      · intro t ht
        unfold insL at ht
        by_cases hm : op.t ∈ rowsAt S (3 * op.pred.toNat)
        · rw [if_pos hm] at ht; exact h.2 _ 0 hq (by omega) t ht
        · rw [if_neg hm] at ht
          by_cases hf : (rowsAt S (3 * op.pred.toNat)).length = 512
          · rw [if_pos hf] at ht; exact h.2 _ 0 hq (by omega) t ht
          · rw [if_neg hf] at ht
            rcases List.mem_append.1 ht with h9 | h9
            · exact h.2 _ 0 hq (by omega) t h9
            · rw [List.mem_singleton.1 h9]; exact k3
    · rw [if_pos hc]; exact h
  | drop _ =>
    unfold dropS
    by_cases hc : ckF p false op.pred op.t = 0
    · rw [if_neg (fun h => h hc)]
      obtain ⟨c1, c2⟩ := ckF_zero hc
      obtain ⟨k1, k2, k3⟩ := ckT_zero c1
      have hq : op.pred.toNat < p.P.length := by have := k1.1; have := k1.2; omega
      obtain ⟨l1, l2⟩ := h.1.1.2.1.at (3 * op.pred.toNat)
      have hsub : (delL (rowsAt S (3 * op.pred.toNat)) op.t).Sublist (rowsAt S (3 * op.pred.toNat)) := delL_sub _ _
      exact engI_set h hq ⟨Nat.le_trans hsub.length_le l1, l2.1.sublist hsub, fun t ht => l2.2 t (hsub.subset ht)⟩ (fun t ht => h.2 _ 0 hq (by omega) t (hsub.subset ht))
    · rw [if_pos hc]; exact h
  | over _ _ => exact h
  | runs _ hr => exact runs_inv hok hr h.beg.1 h.beg.2 _ rfl
  | has _ => exact h
  | list _ => exact h
  | bad _ => exact h
theorem pgOk_of {P : List PredInfo} {R : List GRule} {Ls : Nat → List Literal} {S : Nat} (hN : P.length ≤ 64) (hA : ∀ x ∈ P, 0 ≤ x.arity ∧ x.arity ≤ 4) (h1 : 1 ≤ S) (h2 : S ≤ 65) (hv : VerOk P R Ls) (hl : LayX P R Ls S) : PgOk ⟨P, R, Ls, S⟩ where
  nP := hN
  nR := hv.1
  s1 := h1
  s2 := h2
  ar := hA
  str := fun x hx => by
    obtain ⟨k, hk⟩ := List.mem_iff_getElem?.1 hx
    exact hl.1 k x hk
  b8 := fun k r hr => (hv.2.1 k r hr).1
  lits := fun k r hr l hl' => ((hv.2.1 k r hr).2.2.2.1 l hl').fit hA
  head := fun k r hr => (hv.2.1 k r hr).2.1.fit hA
  der := fun k r hr => (hv.2.1 k r hr).2.2.1
  rsH := fun k r hr => (hv.2.1 k r hr).2.2.2.2.1
  rsN := fun k r hr => (hv.2.1 k r hr).2.2.2.2.2
  lay := fun k r hr l hl' => by
    have h := hl.2 k r hr l hl'
    unfold LitC at h
    have e : ∀ q, strP ⟨P, R, Ls, S⟩ q = sOf P q := fun q => rfl
    rw [e, e]
    cases hn : l.neg
    · rw [hn] at h
      exact ⟨by simpa using h, fun h => by cases h⟩
    · rw [hn] at h
      have h' : sOf P l.atom.pred.toNat + 1 ≤ sOf P r.head.pred.toNat := h
      exact ⟨by omega, fun _ => by omega⟩
theorem perm_of {L L' : List Tup} (h1 : L.Nodup) (h2 : L'.Nodup) (h : ∀ t, t ∈ L ↔ t ∈ L') : L.Perm L' := (List.perm_ext_iff_of_nodup h1 h2).2 h
end Go.Proofs.Qxb6500788a
