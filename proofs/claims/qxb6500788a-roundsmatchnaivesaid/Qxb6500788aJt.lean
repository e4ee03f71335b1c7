import Derived.Test.Qxb6500788aJs
import Derived.StillTailTactics
import Derived.Deep.QuietTactic
import Derived.BigQuiet
import Derived.Deep.RegionHeld
import Derived.Deep.CutRange
import Derived.Laws.ResultCell
import Derived.Laws.Rows
import Derived.DeepKeys
import Derived.DataBytes
import Derived.Laws.StructEq
import Derived.Laws.AppendOwn
import Derived.Laws.MakeOwn
set_option linter.unusedSimpArgs false
set_option linter.unusedVariables false
namespace Go.Proofs.Qxb6500788a
open Go.RowKit Go.Blk
attribute [local go_sem ↓] execOp_load execOp_store execOp_alloc
attribute [local go_sem] Try.ld24 Try.st24 Try.ld25 Try.st25 Try.ld3 Try.st3 Try.ld30 Try.st30 Try.ld36 Try.st36 Try.ld4 Try.st4 Try.ld41 Try.st41 Try.ld50 Try.st50 Try.ld40 Try.st40 Try.ld42 Try.st42 Try.ld89 Try.st89 Try.ld91 Try.st91 Try.ld56 Try.st56 Try.ld97 Try.st97 Try.ld98 Try.st98 Try.ld101 Try.st101 Try.ld104 Try.st104 Try.ld57 Try.st57 Try.ld130 Try.st130 Try.ld2 Try.st2 Try.ld5 Try.st5 Try.ld9 Try.st9 Try.ld12 Try.st12 Try.ld21 Try.st21 Try.ld22 Try.st22 Try.ld29 Try.st29 Try.ld33 Try.st33 Try.ld59 Try.st59 Try.ld62 Try.st62 Try.ld69 Try.st69 Try.ld94 Try.st94 Try.ld96 Try.st96 Try.ld129 Try.st129 Try.ld158 Try.st158 Try.ld162 Try.st162 Try.ld47 Try.st47 Try.ld44 Try.st44 Try.ld137 Try.st137 Try.ld145 Try.st145 Try.ld43 Try.st43 Try.ld27 Try.st27 Try.ld38 Try.st38 Try.ld46 Try.st46 Try.ld49 Try.st49 Try.ld52 Try.st52 Try.ld54 Try.st54 Try.ld61 Try.st61 Try.ld80 Try.st80 Try.ld87 Try.st87 Try.ld93 Try.st93 Try.ld100 Try.st100 Try.ld103 Try.st103 Try.ld106 Try.st106 Try.ld109 Try.st109 Try.ld132 Try.st132 Try.ld147 Try.st147 Try.al47 Try.al44 Try.al137 Try.al145 Try.al43 Try.al27 Try.al38 Try.al46 Try.al49 Try.al52 Try.al54 Try.al61 Try.al80 Try.al87 Try.al93 Try.al100 Try.al103 Try.al106 Try.al109 Try.al132 Try.al147
attribute [local go_sem] GProgram.length_enc GProgram.ok_enc GProgram.all_get GProgram.all_set GProgram.preds_get GProgram.preds_set GProgram.rules_get GProgram.rules_set GProgram.strata_get GProgram.strata_set Answer.length_enc Answer.ok_enc Answer.all_get Answer.all_set Answer.code_get Answer.code_set Answer.n_get Answer.n_set Answer.rows_get Answer.rows_set Term.length_enc Term.ok_enc Term.all_get Term.all_set Term.var_get Term.var_set Term.n_get Term.n_set Atom.length_enc Atom.ok_enc Atom.all_get Atom.all_set Atom.pred_get Atom.pred_set Atom.args_get Atom.args_set GRule.length_enc GRule.ok_enc GRule.all_get GRule.all_set GRule.head_get GRule.head_set GRule.body_get GRule.body_set GRule.head_pred_get GRule.head_pred_set GRule.head_args_get GRule.head_args_set GOp.length_enc GOp.ok_enc GOp.all_get GOp.all_set GOp.kind_get GOp.kind_set GOp.pred_get GOp.pred_set GOp.t_get GOp.t_set GOp.n_get GOp.n_set GOp.base_get GOp.base_set GOp.rule_get GOp.rule_set GOp.rule_head_get GOp.rule_head_set GOp.rule_body_get GOp.rule_body_set GOp.rule_head_pred_get GOp.rule_head_pred_set GOp.rule_head_args_get GOp.rule_head_args_set PredInfo.length_enc PredInfo.ok_enc PredInfo.all_get PredInfo.all_set PredInfo.arity_get PredInfo.arity_set PredInfo.base_get PredInfo.base_set PredInfo.stratum_get PredInfo.stratum_set GStats.length_enc GStats.ok_enc GStats.all_get GStats.all_set GStats.rounds_get GStats.rounds_set GStats.fired_get GStats.fired_set GStats.emitted_get GStats.emitted_set GStats.fresh_get GStats.fresh_set Literal.length_enc Literal.ok_enc Literal.all_get Literal.all_set Literal.neg_get Literal.neg_set Literal.atom_get Literal.atom_set Literal.atom_pred_get Literal.atom_pred_set Literal.atom_args_get Literal.atom_args_set Engine.length_enc Engine.ok_enc Engine.all_get Engine.all_set Engine.prog_get Engine.prog_set Engine.st_get Engine.st_set Engine.levels_get Engine.levels_set Engine.running_get Engine.running_set Engine.stratum_get Engine.stratum_set Engine.round_get Engine.round_set Engine.saved_get Engine.saved_set Engine.stats_get Engine.stats_set Engine.prog_preds_get Engine.prog_preds_set Engine.prog_rules_get Engine.prog_rules_set Engine.prog_strata_get Engine.prog_strata_set Engine.stats_rounds_get Engine.stats_rounds_set Engine.stats_fired_get Engine.stats_fired_set Engine.stats_emitted_get Engine.stats_emitted_set Engine.stats_fresh_get Engine.stats_fresh_set Level.length_enc Level.ok_enc Level.all_get Level.all_set Level.heads_get Level.heads_set Level.jobs_get Level.jobs_set Plan.length_enc Plan.ok_enc Plan.all_get Plan.all_set Plan.rule_get Plan.rule_set Plan.delta_get Plan.delta_set Plan.src_get Plan.src_set Job.length_enc Job.ok_enc Job.all_get Job.all_set Job.full_get Job.full_set Job.deltas_get Job.deltas_set Job.full_rule_get Job.full_rule_set Job.full_delta_get Job.full_delta_set Job.full_src_get Job.full_src_set GState.length_enc GState.ok_enc GState.all_get GState.all_set GState.prog_get GState.prog_set GState.base_get GState.base_set GState.shown_get GState.shown_set GState.prog_preds_get GState.prog_preds_set GState.prog_rules_get GState.prog_rules_set GState.prog_strata_get GState.prog_strata_set Store.length_enc Store.ok_enc Store.all_get Store.all_set Store.arity_get Store.arity_set Store.rows_get Store.rows_set Env.length_enc Env.ok_enc Env.all_get Env.all_set Env.val_get Env.val_set Env.set_get Env.set_set
attribute [local go_sem] size_put size_ext blk_put free_put blk_alloc free_alloc blk_drew free_drew blk_ext free_ext lookOr_some putOr_some segAt_some cellAt_some storeIn_some put_put put_alloc_new length_arr ok_arr_u8 ok_arr_u32 ok_arr_u64 ok_arr_i64 ok_arr_sl cellsV_agg cellsV_int cellsV_bool cellsV_string cellsV_pointer cellsV_slice cellsV_sl ok_int ok_bool ok_string ok_pointer ok_slice ok_sl toList_arr seg_arr set_arr nth_splice nth_splice0 seg_splice seg_splice0 splice_splice splice_splice0 length_splice_if
attribute [local go_sem ↓] execOp_box
attribute [local go_sem] box_run nth_arr_u8 put_arr_u8 blk_drewN free_drewN put_drewN blk_raw free_raw
/-- The derived relations and their next tuples, counted. -/
def dnx (p : Pg) (S : List (List Tup)) : Nat → Nat
  | 0 => 0
  | n + 1 => dnx p S n + if basP p n = true then 0 else (rowsAt S (3 * n)).length + (rowsAt S (3 * n + 2)).length
theorem dnx_congr {p : Pg} {S S' : List (List Tup)} : ∀ n, (∀ q, q < n → basP p q = false → (rowsAt S (3 * q)).length + (rowsAt S (3 * q + 2)).length = (rowsAt S' (3 * q)).length + (rowsAt S' (3 * q + 2)).length) → dnx p S n = dnx p S' n
  | 0, _ => rfl
  | n + 1, h => by
    have ih := dnx_congr n (fun q hq => h q (by omega))
    show dnx p S n + (if basP p n = true then 0 else _) = dnx p S' n + (if basP p n = true then 0 else _)
    cases hb : basP p n with
    | true => rw [if_pos rfl, if_pos rfl, ih]
    | false => rw [if_neg (by decide), if_neg (by decide), ih, h n (by omega) hb]
theorem dnx_one {p : Pg} {S S' : List (List Tup)} {k d : Nat} (hb : basP p k = false) (hk : (rowsAt S' (3 * k)).length + (rowsAt S' (3 * k + 2)).length = (rowsAt S (3 * k)).length + (rowsAt S (3 * k + 2)).length + d) (ho : ∀ q, q ≠ k → (rowsAt S' (3 * q)).length + (rowsAt S' (3 * q + 2)).length = (rowsAt S (3 * q)).length + (rowsAt S (3 * q + 2)).length) : ∀ n, k < n → dnx p S' n = dnx p S n + d
  | 0, h => by omega
  | n + 1, h => by
    show dnx p S' n + (if basP p n = true then 0 else _) = dnx p S n + (if basP p n = true then 0 else _) + d
    by_cases hkn : n = k
    · subst hkn
      rw [if_neg (by rw [hb]; decide), if_neg (by rw [hb]; decide), hk, dnx_congr (S' := S) n (fun q hq _ => ho q (by omega))]
      omega
    · have ih := dnx_one hb hk ho n (by omega)
      rw [ih, ho n hkn]
      omega
theorem dnx_le {p : Pg} {S : List (List Tup)} (h : SOk S) : ∀ n, dnx p S n ≤ n * 1024
  | 0 => by simp [dnx]
  | n + 1 => by
    have ih := dnx_le (p := p) h n
    have h1 := (h.at (3 * n)).1
    have h2 := (h.at (3 * n + 2)).1
    have h3 : (if basP p n = true then 0 else (rowsAt S (3 * n)).length + (rowsAt S (3 * n + 2)).length) ≤ 1024 := by
      by_cases hb : basP p n = true
      · rw [if_pos hb]; exact Nat.zero_le _
      · rw [if_neg hb]; omega
    rw [Nat.succ_mul]
    exact Nat.add_le_add ih h3
theorem frN_add {q : Int} (h0 : 0 ≤ q) : ∀ n : Nat, q + n < 9223372036854775808 → frN q n = q + n
  | 0, _ => by show q = _; omega
  | n + 1, h => by
    have ih := frN_add h0 n (by omega)
    show wrap64 (frN q n + 1) = _
    rw [ih]
    unfold wrap64
    omega
theorem newL_len {F : List Tup} : ∀ (out N : List Tup), (newL F N out).length ≤ N.length + out.length
  | [], N => Nat.le_refl _
  | t :: out, N => by
    show (newL F (if t ∈ F then N else addT N t) out).length ≤ _
    refine Nat.le_trans (newL_len out _) ?_
    rw [List.length_cons]
    by_cases h : t ∈ F
    · rw [if_pos h]; omega
    · rw [if_neg h]
      have : (addT N t).length ≤ N.length + 1 := by
        unfold addT
        split
        · omega
        · rw [List.length_append, List.length_singleton]; exact Nat.le_refl _
      omega
/-- The statistics of a run: fresh tuples are those derived, and all were emitted. -/
structure SQ (p : Pg) (s : Nat) (b : Nat) (σ : StQ) : Prop where
  rd : RdOk p s σ.1
  fr : σ.2.fresh = ((dnx p σ.1 p.P.length : Nat) : Int)
  em : σ.2.fresh ≤ σ.2.emitted
  bd : σ.2.emitted ≤ (b : Int)
theorem fire_sq {p : Pg} (hok : PgOk p) {s k : Nat} (hk : k ∈ jobsOf p s) {d : Int} {b : Nat} (hb : b + 4294967296 ≤ 1000000000000000000) {σ σ' : StQ} (hQ : SQ p s b σ) (h : fireO p k d σ = some σ') : SQ p s (b + 4294967296) σ' ∧ σ'.2.rounds = σ.2.rounds := by
  have hrd := (fireO_ok hok hk hQ.rd h).1
  obtain ⟨h1, h2, h3⟩ := hQ.rd
  obtain ⟨j1, j2, j3, j4⟩ := jobs_head hok hk
  have hN := hok.nP
  have hout := outok_len (outP_ok hok h2 hk d)
  have hd1 := dnx_le (p := p) h2 p.P.length
  have hd2 := dnx_le (p := p) hrd.2.1 p.P.length
  have hq1 := hQ.fr
  have hq2 := hQ.em
  have hq3 := hQ.bd
  unfold fireO at h
  by_cases hc : (rowsAt σ.1 (3 * hP p k)).length + (newN p σ.1 k d).length ≤ 512
  · rw [if_pos hc] at h
    injection h with h
    have hmono : (rowsAt σ.1 (3 * hP p k + 2)).length ≤ (newN p σ.1 k d).length := newL_mono _ _ _
    have hadd : (newN p σ.1 k d).length ≤ (rowsAt σ.1 (3 * hP p k + 2)).length + (outP p σ.1 k d).length := newL_len _ _
    have hdn : dnx p σ'.1 p.P.length = dnx p σ.1 p.P.length + ((newN p σ.1 k d).length - (rowsAt σ.1 (3 * hP p k + 2)).length) := by
      rw [← h]
      refine dnx_one j3 ?_ (fun q hq => ?_) p.P.length j2
      · show (rowsAt (σ.1.set (3 * hP p k + 2) (newN p σ.1 k d)) (3 * hP p k)).length + (rowsAt (σ.1.set (3 * hP p k + 2) (newN p σ.1 k d)) (3 * hP p k + 2)).length = _
        rw [rowsAt_set (by omega), rowsAt_set (by omega), if_neg (by omega), if_pos rfl]
        omega
      · show (rowsAt (σ.1.set (3 * hP p k + 2) (newN p σ.1 k d)) (3 * q)).length + (rowsAt (σ.1.set (3 * hP p k + 2) (newN p σ.1 k d)) (3 * q + 2)).length = _
        rw [rowsAt_set (by omega), rowsAt_set (by omega), if_neg (by omega), if_neg (by omega)]
    have hf : σ'.2.fresh = frN σ.2.fresh ((newN p σ.1 k d).length - (rowsAt σ.1 (3 * hP p k + 2)).length) := by rw [← h]
    have he : σ'.2.emitted = wrap64 (σ.2.emitted + (outP p σ.1 k d).length) := by rw [← h]
    have hr : σ'.2.rounds = σ.2.rounds := by rw [← h]
    rw [frN_add (by omega) _ (by omega)] at hf
    have he' : σ'.2.emitted = σ.2.emitted + ((outP p σ.1 k d).length : Int) := by
      rw [he]
      unfold wrap64
      omega
    exact ⟨⟨hrd, by rw [hf, hdn, hq1]; omega, by rw [hf, he']; omega, by rw [he']; omega⟩, hr⟩
  · rw [if_neg hc] at h; cases h
theorem foldO_bud {α β : Type} {f : β → α → Option β} {I : Nat → β → Prop} {R : β → β → Prop} (hr : ∀ s, R s s) (ht : ∀ a b c, R a b → R b c → R a c) (c M : Nat) : ∀ (l : List α), (∀ a ∈ l, ∀ b s s', b + c ≤ M → I b s → f s a = some s' → I (b + c) s' ∧ R s s') → ∀ b s s', b + l.length * c ≤ M → I b s → foldO f l s = some s' → I (b + l.length * c) s' ∧ R s s'
  | [], _, b, s, s', _, hI, h => by
    have : s = s' := Option.some.inj h
    subst this
    refine ⟨?_, hr _⟩
    rw [List.length_nil, Nat.zero_mul, Nat.add_zero]; exact hI
  | a :: l, hf, b, s, s', hb, hI, h => by
    have hm : (a :: l).length * c = c + l.length * c := by rw [List.length_cons, Nat.succ_mul]; omega
    rw [hm] at hb ⊢
    have h' : (f s a).bind (foldO f l) = some s' := h
    cases hfa : f s a with
    | none => rw [hfa] at h'; cases h'
    | some s1 =>
      rw [hfa] at h'
      obtain ⟨i1, r1⟩ := hf a (List.mem_cons_self ..) b s s1 (by omega) hI hfa
      obtain ⟨i2, r2⟩ := foldO_bud hr ht c M l (fun x hx => hf x (List.mem_cons_of_mem _ hx)) (b + c) s1 s' (by omega) i1 h'
      refine ⟨?_, ht _ _ _ r1 r2⟩
      rw [← Nat.add_assoc]; exact i2
theorem SQ.up {p : Pg} {s b b' : Nat} {σ : StQ} (h : SQ p s b σ) (hb : b ≤ b') : SQ p s b' σ := ⟨h.rd, h.fr, h.em, by have := h.bd; omega⟩
theorem job_sq {p : Pg} (hok : PgOk p) {s rn k : Nat} (hk : k ∈ jobsOf p s) {b : Nat} (hb : b + 34359738368 ≤ 1000000000000000000) {σ σ' : StQ} (hQ : SQ p s b σ) (h : jobO p s rn σ k = some σ') : SQ p s (b + 34359738368) σ' ∧ σ'.2.rounds = σ.2.rounds := by
  unfold jobO at h
  by_cases hr : rn = 0
  · rw [if_pos hr] at h
    obtain ⟨h1, h2⟩ := fire_sq hok hk (by omega) hQ h
    exact ⟨h1.up (by omega), h2⟩
  · rw [if_neg hr] at h
    obtain ⟨r, hrr⟩ := jobs_r hk
    have h8 := hok.b8 k r hrr
    have hl : (delOf p s k).length ≤ 8 := by
      unfold delOf
      refine Nat.le_trans (List.length_filter_le _ _) ?_
      rw [List.length_range]; exact h8
    have hm : (delOf p s k).length * 4294967296 ≤ 8 * 4294967296 := Nat.mul_le_mul_right _ hl
    obtain ⟨h1, h2⟩ := foldO_bud (I := SQ p s) (R := fun a b : StQ => b.2.rounds = a.2.rounds) (fun _ => rfl) (fun _ _ _ e1 e2 => e2.trans e1) 4294967296 1000000000000000000 (delOf p s k) (fun d _ b σ σ' hb hI hf => by
      unfold fireDO at hf
      by_cases hc : rowsAt σ.1 (3 * litP p k d + 1) = []
      · rw [if_pos hc] at hf
        have : σ = σ' := Option.some.inj hf
        subst this
        exact ⟨hI.up (by omega), rfl⟩
      · rw [if_neg hc] at hf
        exact fire_sq hok hk hb hI hf) b σ σ' (by omega) hQ h
    exact ⟨h1.up (by omega), h2⟩
theorem jobs_sq {p : Pg} (hok : PgOk p) {s rn : Nat} {b : Nat} (hb : b + 4398046511104 ≤ 1000000000000000000) {σ σ' : StQ} (hQ : SQ p s b σ) (h : jobsO p s rn σ = some σ') : SQ p s (b + 4398046511104) σ' ∧ σ'.2.rounds = σ.2.rounds := by
  have hR := hok.nR
  have hl : (jobsOf p s).length ≤ 128 := by
    unfold jobsOf
    refine Nat.le_trans (List.length_filter_le _ _) ?_
    rw [List.length_range]; exact hR
  have hm : (jobsOf p s).length * 34359738368 ≤ 128 * 34359738368 := Nat.mul_le_mul_right _ hl
  obtain ⟨h1, h2⟩ := foldO_bud (I := SQ p s) (R := fun a b : StQ => b.2.rounds = a.2.rounds) (fun _ => rfl) (fun _ _ _ e1 e2 => e2.trans e1) 34359738368 1000000000000000000 (jobsOf p s) (fun k hk b σ σ' hb hI hf => job_sq hok hk hb hI hf) b σ σ' (by omega) hQ h
  exact ⟨h1.up (by omega), h2⟩
/-- What R rounds may emit. -/
def eb : Nat → Nat
  | 0 => 0
  | R + 1 => eb R + 4398046511104
theorem eb_le : ∀ R, eb R ≤ 4398046511104 * R
  | 0 => Nat.zero_le _
  | R + 1 => by
    rw [Nat.mul_succ]
    exact Nat.add_le_add_right (eb_le R) _
theorem eb_cap {R : Nat} (h : R ≤ 100000) : eb R ≤ 439804651110400000 := Nat.le_trans (Nat.le_trans (eb_le R) (Nat.mul_le_mul_left _ h)) (Nat.le_of_ble_eq_true rfl)
/-- The statistics after R rounds. -/
structure SR (p : Pg) (R : Nat) (σ : StQ) : Prop where
  nx : NxE p σ.1
  fr : σ.2.fresh = ((dnx p σ.1 p.P.length : Nat) : Int)
  em : σ.2.fresh ≤ σ.2.emitted
  bd : σ.2.emitted ≤ ((eb R : Nat) : Int)
  rn : σ.2.rounds = (R : Int)
theorem SR.round {p : Pg} (hok : PgOk p) {s rn R : Nat} {σ σ' : StQ} (h : SR p R σ) (hR : R ≤ 100000) (hj : jobsO p s rn σ = some σ') : SR p (R + 1) (promL σ'.1 (headsOf p s), qR σ'.2) := by
  have hm := eb_cap hR
  obtain ⟨h1, h2⟩ := jobs_sq hok (s := s) (rn := rn) (b := eb R) (by omega) ⟨h.nx.rd s, h.fr, h.em, h.bd⟩ hj
  have hl := h1.rd.1
  have hbd := h1.bd
  have hrn := h.rn
  refine ⟨h.nx.round hok hj, ?_, h1.em, ?_, ?_⟩
  · show σ'.2.fresh = _
    rw [h1.fr]
    congr 1
    refine dnx_congr _ (fun q hq hb => ?_)
    show _ = (rowsAt (promL σ'.1 (headsOf p s)) (3 * q)).length + (rowsAt (promL σ'.1 (headsOf p s)) (3 * q + 2)).length
    rw [prom_rows hl (3 * q) q 0 rfl (by omega), prom_rows hl (3 * q + 2) q 2 rfl (by omega)]
    by_cases hh : q ∈ headsOf p s
    · rw [if_pos hh, if_pos rfl, if_pos hh, if_neg (by omega), if_neg (by omega), List.length_append]
      rfl
    · rw [if_neg hh, if_neg hh]
  · exact hbd
  · show wrap64 (σ'.2.rounds + 1) = _
    rw [h2, hrn]
    unfold wrap64
    omega
theorem SR.beg {p : Pg} {S : List (List Tup)} (hS : EngI p S) : SR p 0 (begS p S p.P.length, ⟨0, 0, 0, 0⟩) := by
  refine ⟨hS.beg.1.1, ?_, Int.le_refl _, Int.le_refl _, rfl⟩
  have : ∀ n, n ≤ p.P.length → dnx p (begS p S p.P.length) n = 0 := by
    intro n hn
    induction n with
    | zero => rfl
    | succ n ih =>
      show dnx p _ n + (if basP p n = true then 0 else _) = 0
      rw [ih (by omega)]
      cases hb : basP p n with
      | true => rw [if_pos rfl]
      | false =>
        rw [if_neg (by decide), hS.beg.1.1.2.2 n (by omega), begS_rows hS.1.1.1 (r := 3 * n) (q := n) (j := 0) rfl (by omega) _ (Nat.le_refl _), if_pos ⟨by omega, rfl, hb⟩]
        rfl
  show (0 : Int) = _
  rw [this _ (Nat.le_refl _)]; rfl
theorem SR.der {p : Pg} {R : Nat} {σ : StQ} (h : SR p R σ) {T : Nat → List Tup} (hT : RelI p T) (hM : Mt p σ.1 T) : σ.2.fresh = ((derT p T p.P.length : Nat) : Int) := by
  rw [h.fr]
  congr 1
  have : ∀ n, n ≤ p.P.length → dnx p σ.1 n = derT p T n := by
    intro n hn
    induction n with
    | zero => rfl
    | succ n ih =>
      show dnx p σ.1 n + (if basP p n = true then 0 else _) = derT p T n + (if basP p n = true then 0 else _)
      rw [ih (by omega), h.nx.2.2 n (by omega), hM.len h.nx.2.1 hT (by omega)]
      rfl
  exact this _ (Nat.le_refl _)
end Go.Proofs.Qxb6500788a
