import Derived.Test.Qxb6500788aPd
import Derived.StillTailTactics
import Derived.Deep.QuietTactic
import Derived.BigQuiet
import Derived.Deep.RegionHeld
import Derived.Deep.CutRange
import Derived.Laws.ResultCell
import Derived.Laws.Rows
import Derived.DeepKeys
import Derived.DataBytes
import Derived.Laws.StructEq
import Derived.Laws.AppendOwn
import Derived.Laws.MakeOwn
set_option linter.unusedSimpArgs false
set_option linter.unusedVariables false
namespace Go.Proofs.Qxb6500788a
open Go.RowKit Go.Blk
attribute [local go_sem ↓] execOp_load execOp_store execOp_alloc
attribute [local go_sem] Try.ld24 Try.st24 Try.ld25 Try.st25 Try.ld3 Try.st3 Try.ld30 Try.st30 Try.ld36 Try.st36 Try.ld4 Try.st4 Try.ld41 Try.st41 Try.ld50 Try.st50 Try.ld40 Try.st40 Try.ld42 Try.st42 Try.ld89 Try.st89 Try.ld91 Try.st91 Try.ld56 Try.st56 Try.ld97 Try.st97 Try.ld98 Try.st98 Try.ld101 Try.st101 Try.ld104 Try.st104 Try.ld57 Try.st57 Try.ld130 Try.st130 Try.ld2 Try.st2 Try.ld5 Try.st5 Try.ld9 Try.st9 Try.ld12 Try.st12 Try.ld21 Try.st21 Try.ld22 Try.st22 Try.ld29 Try.st29 Try.ld33 Try.st33 Try.ld59 Try.st59 Try.ld62 Try.st62 Try.ld69 Try.st69 Try.ld94 Try.st94 Try.ld96 Try.st96 Try.ld129 Try.st129 Try.ld158 Try.st158 Try.ld162 Try.st162 Try.ld47 Try.st47 Try.ld44 Try.st44 Try.ld137 Try.st137 Try.ld145 Try.st145 Try.ld43 Try.st43 Try.ld27 Try.st27 Try.ld38 Try.st38 Try.ld46 Try.st46 Try.ld49 Try.st49 Try.ld52 Try.st52 Try.ld54 Try.st54 Try.ld61 Try.st61 Try.ld80 Try.st80 Try.ld87 Try.st87 Try.ld93 Try.st93 Try.ld100 Try.st100 Try.ld103 Try.st103 Try.ld106 Try.st106 Try.ld109 Try.st109 Try.ld132 Try.st132 Try.ld147 Try.st147 Try.al47 Try.al44 Try.al137 Try.al145 Try.al43 Try.al27 Try.al38 Try.al46 Try.al49 Try.al52 Try.al54 Try.al61 Try.al80 Try.al87 Try.al93 Try.al100 Try.al103 Try.al106 Try.al109 Try.al132 Try.al147
attribute [local go_sem] GProgram.length_enc GProgram.ok_enc GProgram.all_get GProgram.all_set GProgram.preds_get GProgram.preds_set GProgram.rules_get GProgram.rules_set GProgram.strata_get GProgram.strata_set Answer.length_enc Answer.ok_enc Answer.all_get Answer.all_set Answer.code_get Answer.code_set Answer.n_get Answer.n_set Answer.rows_get Answer.rows_set Term.length_enc Term.ok_enc Term.all_get Term.all_set Term.var_get Term.var_set Term.n_get Term.n_set Atom.length_enc Atom.ok_enc Atom.all_get Atom.all_set Atom.pred_get Atom.pred_set Atom.args_get Atom.args_set GRule.length_enc GRule.ok_enc GRule.all_get GRule.all_set GRule.head_get GRule.head_set GRule.body_get GRule.body_set GRule.head_pred_get GRule.head_pred_set GRule.head_args_get GRule.head_args_set GOp.length_enc GOp.ok_enc GOp.all_get GOp.all_set GOp.kind_get GOp.kind_set GOp.pred_get GOp.pred_set GOp.t_get GOp.t_set GOp.n_get GOp.n_set GOp.base_get GOp.base_set GOp.rule_get GOp.rule_set GOp.rule_head_get GOp.rule_head_set GOp.rule_body_get GOp.rule_body_set GOp.rule_head_pred_get GOp.rule_head_pred_set GOp.rule_head_args_get GOp.rule_head_args_set PredInfo.length_enc PredInfo.ok_enc PredInfo.all_get PredInfo.all_set PredInfo.arity_get PredInfo.arity_set PredInfo.base_get PredInfo.base_set PredInfo.stratum_get PredInfo.stratum_set GStats.length_enc GStats.ok_enc GStats.all_get GStats.all_set GStats.rounds_get GStats.rounds_set GStats.fired_get GStats.fired_set GStats.emitted_get GStats.emitted_set GStats.fresh_get GStats.fresh_set Literal.length_enc Literal.ok_enc Literal.all_get Literal.all_set Literal.neg_get Literal.neg_set Literal.atom_get Literal.atom_set Literal.atom_pred_get Literal.atom_pred_set Literal.atom_args_get Literal.atom_args_set Engine.length_enc Engine.ok_enc Engine.all_get Engine.all_set Engine.prog_get Engine.prog_set Engine.st_get Engine.st_set Engine.levels_get Engine.levels_set Engine.running_get Engine.running_set Engine.stratum_get Engine.stratum_set Engine.round_get Engine.round_set Engine.saved_get Engine.saved_set Engine.stats_get Engine.stats_set Engine.prog_preds_get Engine.prog_preds_set Engine.prog_rules_get Engine.prog_rules_set Engine.prog_strata_get Engine.prog_strata_set Engine.stats_rounds_get Engine.stats_rounds_set Engine.stats_fired_get Engine.stats_fired_set Engine.stats_emitted_get Engine.stats_emitted_set Engine.stats_fresh_get Engine.stats_fresh_set Level.length_enc Level.ok_enc Level.all_get Level.all_set Level.heads_get Level.heads_set Level.jobs_get Level.jobs_set Plan.length_enc Plan.ok_enc Plan.all_get Plan.all_set Plan.rule_get Plan.rule_set Plan.delta_get Plan.delta_set Plan.src_get Plan.src_set Job.length_enc Job.ok_enc Job.all_get Job.all_set Job.full_get Job.full_set Job.deltas_get Job.deltas_set Job.full_rule_get Job.full_rule_set Job.full_delta_get Job.full_delta_set Job.full_src_get Job.full_src_set GState.length_enc GState.ok_enc GState.all_get GState.all_set GState.prog_get GState.prog_set GState.base_get GState.base_set GState.shown_get GState.shown_set GState.prog_preds_get GState.prog_preds_set GState.prog_rules_get GState.prog_rules_set GState.prog_strata_get GState.prog_strata_set Store.length_enc Store.ok_enc Store.all_get Store.all_set Store.arity_get Store.arity_set Store.rows_get Store.rows_set Env.length_enc Env.ok_enc Env.all_get Env.all_set Env.val_get Env.val_set Env.set_get Env.set_set
attribute [local go_sem] size_put size_ext blk_put free_put blk_alloc free_alloc blk_drew free_drew blk_ext free_ext lookOr_some putOr_some segAt_some cellAt_some storeIn_some put_put put_alloc_new length_arr ok_arr_u8 ok_arr_u32 ok_arr_u64 ok_arr_i64 ok_arr_sl cellsV_agg cellsV_int cellsV_bool cellsV_string cellsV_pointer cellsV_slice cellsV_sl ok_int ok_bool ok_string ok_pointer ok_slice ok_sl toList_arr seg_arr set_arr nth_splice nth_splice0 seg_splice seg_splice0 splice_splice splice_splice0 length_splice_if
attribute [local go_sem ↓] execOp_box
attribute [local go_sem] box_run nth_arr_u8 put_arr_u8 blk_drewN free_drewN put_drewN blk_raw free_raw
/-- A rule's consequences in given relations. -/
def Con (p : Pg) (k : Nat) (F : Nat → Tup → Prop) (t : Tup) : Prop := ∃ σ : Nat → Int, (∀ (i : Nat) (l : Literal), (p.L k)[i]? = some l → (F l.atom.pred.toNat (sT l.atom σ (arA p.P l.atom)) ↔ l.neg = false)) ∧ t = sT (hdP p k) σ (arA p.P (hdP p k))
def fulS (S : List (List Tup)) (q : Nat) (t : Tup) : Prop := t ∈ rowsAt S (3 * q)
/-- What the round before left: the deltas are what was new, and the old tuples' consequences are known. -/
def oldS (p : Pg) (s : Nat) (S : List (List Tup)) (q : Nat) (t : Tup) : Prop := t ∈ rowsAt S (3 * q) ∧ (q ∈ headsOf p s → t ∉ rowsAt S (3 * q + 1))
def DInv (p : Pg) (s : Nat) (S : List (List Tup)) : Prop := (∀ q ∈ headsOf p s, ∀ t ∈ rowsAt S (3 * q + 1), t ∈ rowsAt S (3 * q)) ∧ ∀ k ∈ jobsOf p s, ∀ t, Con p k (oldS p s S) t → t ∈ rowsAt S (3 * hP p k)
def RInv (p : Pg) (s rn : Nat) (S : List (List Tup)) : Prop := NxE p S ∧ PadS p S ∧ (rn ≠ 0 → DInv p s S)
theorem mem_heads {p : Pg} {s q : Nat} : q ∈ headsOf p s ↔ q < p.P.length ∧ basP p q = false ∧ strP p q = (s : Int) := by
  unfold headsOf
  rw [List.mem_filter, List.mem_range]
  simp
theorem mem_del {p : Pg} {s k i : Nat} : i ∈ delOf p s k ↔ ∃ l, (p.L k)[i]? = some l ∧ l.neg = false ∧ basP p l.atom.pred.toNat = false ∧ strP p l.atom.pred.toNat = (s : Int) := by
  unfold delOf
  rw [List.mem_filter, List.mem_range]
  constructor
  · rintro ⟨h1, h2⟩
    have hl := List.getElem?_eq_getElem h1
    rw [hl] at h2
    refine ⟨_, hl, ?_⟩
    simpa [and_assoc] using h2
  · rintro ⟨l, h1, h2, h3, h4⟩
    refine ⟨(List.getElem?_eq_some_iff.1 h1).1, ?_⟩
    rw [h1]
    simp [h2, h3, h4]
theorem em_con {p : Pg} (hok : PgOk p) {s rn : Nat} {S : List (List Tup)} (hR : RInv p s rn S) {k : Nat} (hk : k ∈ jobsOf p s) {t : Tup} (ht : t ∉ rowsAt S (3 * hP p k)) : Em p S s rn k t ↔ Con p k (fulS S) t := by
  obtain ⟨r, hr⟩ := jobs_r hk
  obtain ⟨hN, hp, hD⟩ := hR
  unfold Em
  by_cases hn : rn = 0
  · rw [if_pos hn, outP_sem hok hp hr]
    unfold Con fulS
    refine exists_congr (fun σ => and_congr ⟨fun h i l hl => ?_, fun h i l hl => ?_⟩ Iff.rfl)
    · have := h i l hl
      rwa [if_neg (by omega)] at this
    · rw [if_neg (by omega)]
      exact h i l hl
  · rw [if_neg hn]
    obtain ⟨d1, d2⟩ := hD hn
    constructor
    · rintro ⟨d, hd, _, h⟩
      obtain ⟨l0, e1, e2, e3, e4⟩ := mem_del.1 hd
      obtain ⟨σ, h1, h2⟩ := (outP_sem hok hp hr (d : Int) t).1 h
      refine ⟨σ, fun i l hl => ?_, h2⟩
      have h3 := h1 i l hl
      by_cases hid : (i : Int) = (d : Int)
      · obtain rfl : i = d := by omega
        obtain rfl : l = l0 := Option.some.inj (hl.symm.trans e1)
        rw [if_pos rfl] at h3
        have hq := lit_q hok hr (List.mem_of_getElem? hl)
        exact ⟨fun _ => e2, fun _ => d1 _ (mem_heads.2 ⟨hq, e3, e4⟩) _ (h3.2 e2)⟩
      · rw [if_neg hid] at h3
        exact h3
    · rintro ⟨σ, h1, h2⟩
      by_cases hx : ∃ (i : Nat) (l : Literal), (p.L k)[i]? = some l ∧ l.neg = false ∧ l.atom.pred.toNat ∈ headsOf p s ∧ sT l.atom σ (arA p.P l.atom) ∈ rowsAt S (3 * l.atom.pred.toNat + 1)
      · obtain ⟨i, l, hl, hng, hh, hm⟩ := hx
        obtain ⟨q1, q2, q3⟩ := mem_heads.1 hh
        refine ⟨i, mem_del.2 ⟨l, hl, hng, q2, q3⟩, ?_, ?_⟩
        · unfold litP
          rw [hl]
          intro e
          have e' : rowsAt S (3 * l.atom.pred.toNat + 1) = [] := e
          rw [e'] at hm; cases hm
        · refine (outP_sem hok hp hr (i : Int) t).2 ⟨σ, fun i' l' hl' => ?_, h2⟩
          by_cases hid : (i' : Int) = (i : Int)
          · obtain rfl : i' = i := by omega
            obtain rfl : l' = l := Option.some.inj (hl'.symm.trans hl)
            rw [if_pos rfl]
            exact ⟨fun _ => hng, fun _ => hm⟩
          · rw [if_neg hid]
            exact h1 i' l' hl'
      · refine absurd (d2 k hk t ⟨σ, fun i l hl => ⟨fun h => (h1 i l hl).1 h.1, fun hng => ⟨(h1 i l hl).2 hng, fun hh hm => hx ⟨i, l, hl, hng, hh, hm⟩⟩⟩, h2⟩) ht
theorem new_con {p : Pg} (hok : PgOk p) {s rn : Nat} {S : List (List Tup)} (hR : RInv p s rn S) (q : Nat) (t : Tup) : NewT p S s rn q t ↔ t ∉ rowsAt S (3 * q) ∧ ∃ k ∈ jobsOf p s, hP p k = q ∧ Con p k (fulS S) t := by
  unfold NewT
  refine and_congr_right (fun hn => exists_congr (fun k => and_congr_right (fun hk => and_congr_right (fun hq => ?_))))
  subst hq
  exact em_con hok hR hk hn
/-- A round, plainly: all consequences are added. -/
theorem round_law {p : Pg} (hok : PgOk p) {s rn : Nat} {σ σ' : StQ} (hR : RInv p s rn σ.1) (h : jobsO p s rn σ = some σ') :
    RInv p s (rn + 1) (promL σ'.1 (headsOf p s)) ∧ (∀ q t, q < p.P.length → (t ∈ rowsAt (promL σ'.1 (headsOf p s)) (3 * q) ↔ t ∈ rowsAt σ.1 (3 * q) ∨ ∃ k ∈ jobsOf p s, hP p k = q ∧ Con p k (fulS σ.1) t)) ∧ (anyN σ'.1 (headsOf p s) = true ↔ ∃ q t, NewT p σ.1 s rn q t) ∧ (∀ q ∈ headsOf p s, ∀ t, t ∈ rowsAt (promL σ'.1 (headsOf p s)) (3 * q + 1) ↔ NewT p σ.1 s rn q t) := by
  obtain ⟨j1, j2, j3, j4⟩ := jobs_new hok hR.1 hR.2.1 h
  have hl := j2.1
  have hfull : ∀ q, rowsAt (promL σ'.1 (headsOf p s)) (3 * q) = if q ∈ headsOf p s then rowsAt σ.1 (3 * q) ++ rowsAt σ'.1 (3 * q + 2) else rowsAt σ.1 (3 * q) := round_rows hok hR.1 h
  have hdel : ∀ q ∈ headsOf p s, rowsAt (promL σ'.1 (headsOf p s)) (3 * q + 1) = rowsAt σ'.1 (3 * q + 2) := fun q hq => by
    rw [prom_rows hl (3 * q + 1) q 1 rfl (by omega), if_pos hq, if_neg (by omega), if_pos rfl]
  have hnh : ∀ q t, NewT p σ.1 s rn q t → q ∈ headsOf p s ∧ q < p.P.length := fun q t hn => by
    obtain ⟨_, k, hk, hq, _⟩ := hn
    rw [← hq]; exact ⟨(jobs_head hok hk).1, (jobs_head hok hk).2.1⟩
  have hmem : ∀ q t, q < p.P.length → (t ∈ rowsAt (promL σ'.1 (headsOf p s)) (3 * q) ↔ t ∈ rowsAt σ.1 (3 * q) ∨ NewT p σ.1 s rn q t) := fun q t hq => by
    rw [hfull q]
    by_cases hh : q ∈ headsOf p s
    · rw [if_pos hh, List.mem_append, j4 q t hq]
    · rw [if_neg hh]
      exact ⟨.inl, fun h => h.elim id (fun h => absurd (hnh q t h).1 hh)⟩
  have hmem2 : ∀ q t, q < p.P.length → (t ∈ rowsAt (promL σ'.1 (headsOf p s)) (3 * q) ↔ t ∈ rowsAt σ.1 (3 * q) ∨ ∃ k ∈ jobsOf p s, hP p k = q ∧ Con p k (fulS σ.1) t) := fun q t hq => by
    rw [hmem q t hq]
    by_cases hf : t ∈ rowsAt σ.1 (3 * q)
    · exact ⟨fun _ => .inl hf, fun _ => .inl hf⟩
    · rw [new_con hok hR]
      exact ⟨fun h => h.elim .inl (fun h => .inr h.2), fun h => h.elim .inl (fun h => .inr ⟨hf, h⟩)⟩
  have hdm : ∀ q ∈ headsOf p s, ∀ t, t ∈ rowsAt (promL σ'.1 (headsOf p s)) (3 * q + 1) ↔ NewT p σ.1 s rn q t := fun q hq t => by
    rw [hdel q hq, j4 q t (heads_lt hq)]
  refine ⟨⟨hR.1.round hok h, fun q j hq hj t ht => ?_, fun _ => ⟨fun q hq t ht => ?_, fun k hk t hc => ?_⟩⟩, hmem2, ?_, hdm⟩
  · rw [prom_rows hl (3 * q + j) q j rfl hj] at ht
    by_cases hh : q ∈ headsOf p s
    · rw [if_pos hh] at ht
      rcases (by omega : j = 0 ∨ j = 1 ∨ j = 2) with rfl | rfl | rfl
      · rw [if_pos rfl] at ht
        rcases List.mem_append.1 ht with h | h
        · exact j1 q 0 hq (by omega) t h
        · exact j1 q 2 hq (by omega) t h
      · rw [if_neg (by omega), if_pos rfl] at ht
        exact j1 q 2 hq (by omega) t ht
      · rw [if_neg (by omega), if_neg (by omega)] at ht; cases ht
    · rw [if_neg hh] at ht
      exact j1 q j hq hj t ht
  · exact (hmem q t (heads_lt hq)).2 (.inr ((hdm q hq t).1 ht))
  · obtain ⟨r, hr⟩ := jobs_r hk
    refine (hmem2 _ t (jobs_head hok hk).2.1).2 (.inr ⟨k, hk, rfl, ?_⟩)
    obtain ⟨τ, h1, h2⟩ := hc
    refine ⟨τ, fun i l hl' => ?_, h2⟩
    rw [← h1 i l hl']
    have hq := lit_q hok hr (List.mem_of_getElem? hl')
    unfold oldS fulS
    rw [hmem _ _ hq]
    constructor
    · intro hf
      refine ⟨.inl hf, fun hh hm => ?_⟩
      exact ((hdm _ hh _).1 hm).1 hf
    · rintro ⟨hf | hf, hn⟩
      · exact hf
      · exact absurd ((hdm _ (hnh _ _ hf).1 _).2 hf) (hn (hnh _ _ hf).1)
  · unfold anyN
    rw [List.any_eq_true]
    constructor
    · rintro ⟨q, hq, hne⟩
      cases hx : rowsAt σ'.1 (3 * q + 2) with
      | nil => rw [hx] at hne; cases hne
      | cons a l => exact ⟨q, a, (j4 q a (heads_lt hq)).1 (by rw [hx]; exact List.mem_cons_self ..)⟩
    · rintro ⟨q, t, hn⟩
      obtain ⟨h1, h2⟩ := hnh q t hn
      refine ⟨q, h1, ?_⟩
      have := (j4 q t h2).2 hn
      cases hx : rowsAt σ'.1 (3 * q + 2) with
      | nil => rw [hx] at this; cases this
      | cons a l => rfl
theorem RInv.next {p : Pg} {s rn s' : Nat} {S : List (List Tup)} (h : RInv p s rn S) : RInv p s' 0 S := ⟨h.1, h.2.1, fun h => absurd rfl h⟩
theorem nodup_sub_len : ∀ {N M : List Tup}, N.Nodup → (∀ t ∈ N, t ∈ M) → N.length ≤ M.length
  | [], M, _, _ => Nat.zero_le _
  | a :: N, M, hN, h => by
    rw [List.nodup_cons] at hN
    have ha := h a (List.mem_cons_self ..)
    have ih := nodup_sub_len (N := N) (M := M.erase a) hN.2 (fun t ht => by
      have hta : t ≠ a := fun e => hN.1 (e ▸ ht)
      exact (List.mem_erase_of_ne hta).2 (h t (List.mem_cons_of_mem _ ht)))
    rw [List.length_erase_of_mem ha] at ih
    have : 0 < M.length := List.length_pos_of_mem ha
    rw [List.length_cons]; omega
/-- The same full relations, as sets. -/
def SEq (p : Pg) (S S' : List (List Tup)) : Prop := ∀ q, q < p.P.length → ∀ t, t ∈ rowsAt S (3 * q) ↔ t ∈ rowsAt S' (3 * q)
theorem SEq.symm {p : Pg} {S S' : List (List Tup)} (h : SEq p S S') : SEq p S' S := fun q hq t => (h q hq t).symm
theorem SEq.len {p : Pg} {S S' : List (List Tup)} (h : SEq p S S') (h1 : SOk S) (h2 : SOk S') {q : Nat} (hq : q < p.P.length) : (rowsAt S (3 * q)).length = (rowsAt S' (3 * q)).length :=
  Nat.le_antisymm (nodup_sub_len (h1.at _).2.1 (fun t ht => (h q hq t).1 ht)) (nodup_sub_len (h2.at _).2.1 (fun t ht => (h q hq t).2 ht))
theorem con_seq {p : Pg} (hok : PgOk p) {S S' : List (List Tup)} (h : SEq p S S') {k : Nat} {r : GRule} (hr : p.R[k]? = some r) (t : Tup) : Con p k (fulS S) t ↔ Con p k (fulS S') t := by
  unfold Con fulS
  refine exists_congr (fun σ => and_congr ⟨fun g i l hl => ?_, fun g i l hl => ?_⟩ Iff.rfl)
  · rw [← h _ (lit_q hok hr (List.mem_of_getElem? hl))]; exact g i l hl
  · rw [h _ (lit_q hok hr (List.mem_of_getElem? hl))]; exact g i l hl
theorem new_seq {p : Pg} (hok : PgOk p) {s rn rn' : Nat} {S S' : List (List Tup)} (hR : RInv p s rn S) (hR' : RInv p s rn' S') (h : SEq p S S') (q : Nat) (t : Tup) (hn : NewT p S s rn q t) : NewT p S' s rn' q t := by
  rw [new_con hok hR] at hn
  rw [new_con hok hR']
  obtain ⟨h1, k, hk, hq, hc⟩ := hn
  obtain ⟨r, hr⟩ := jobs_r hk
  have hqP : q < p.P.length := by rw [← hq]; exact (jobs_head hok hk).2.1
  exact ⟨fun hm => h1 ((h q hqP t).2 hm), k, hk, hq, (con_seq hok h hr t).1 hc⟩
theorem over_seq {p : Pg} (hok : PgOk p) {s rn rn' : Nat} {σ1 σ2 σ2' : StQ} (hR : RInv p s rn σ1.1) (hR' : RInv p s rn' σ2.1) (h : SEq p σ1.1 σ2.1) (h1 : jobsO p s rn σ1 = none) (h2 : jobsO p s rn' σ2 = some σ2') : False := by
  obtain ⟨q, hq, N, n1, n2, n3⟩ := jobs_over hok hR.1 hR.2.1 h1
  obtain ⟨j1, j2, j3, j4⟩ := jobs_new hok hR'.1 hR'.2.1 h2
  have hlen := h.len hR.1.2.1 hR'.1.2.1 hq
  have hN0 : N ≠ [] := fun e => by
    rw [e] at n2
    have := (hR.1.2.1.at (3 * q)).1
    simp at n2; omega
  obtain ⟨t, ht⟩ := List.exists_mem_of_ne_nil N hN0
  obtain ⟨_, k, hk, hqk, _⟩ := n3 t ht
  have hh : q ∈ headsOf p s := by rw [← hqk]; exact (jobs_head hok hk).1
  have hP := (j2.2.2 q hh).2.2
  rw [(j3 q).1] at hP
  have := nodup_sub_len n1 (fun t ht => (j4 q t hq).2 (new_seq hok hR hR' h q t (n3 t ht)))
  omega
theorem some_seq {p : Pg} (hok : PgOk p) {s rn rn' : Nat} {σ1 σ2 σ1' σ2' : StQ} (hR : RInv p s rn σ1.1) (hR' : RInv p s rn' σ2.1) (h : SEq p σ1.1 σ2.1) (h1 : jobsO p s rn σ1 = some σ1') (h2 : jobsO p s rn' σ2 = some σ2') : SEq p (promL σ1'.1 (headsOf p s)) (promL σ2'.1 (headsOf p s)) ∧ anyN σ1'.1 (headsOf p s) = anyN σ2'.1 (headsOf p s) := by
  obtain ⟨_, a1, a2, _⟩ := round_law hok hR h1
  obtain ⟨_, b1, b2, _⟩ := round_law hok hR' h2
  refine ⟨fun q hq t => ?_, ?_⟩
  · rw [a1 q t hq, b1 q t hq, h q hq t]
    refine or_congr Iff.rfl (exists_congr (fun k => and_congr_right (fun hk => and_congr_right (fun _ => ?_))))
    obtain ⟨r, hr⟩ := jobs_r hk
    exact con_seq hok h hr t
  · have : anyN σ1'.1 (headsOf p s) = true ↔ anyN σ2'.1 (headsOf p s) = true := by
      rw [a2, b2]
      exact ⟨fun ⟨q, t, hn⟩ => ⟨q, t, new_seq hok hR hR' h q t hn⟩, fun ⟨q, t, hn⟩ => ⟨q, t, new_seq hok hR' hR h.symm q t hn⟩⟩
    cases h3 : anyN σ1'.1 (headsOf p s) <;> cases h4 : anyN σ2'.1 (headsOf p s) <;> simp_all
/-- Two runs over the same facts come to the same end. -/
theorem runs_agree {p : Pg} (hok : PgOk p) {s rn : Nat} {σ1 : StQ} {r1 : Option StQ} (h : RunsTo p s rn σ1 r1) : ∀ {σ2 : StQ} {r2 : Option StQ}, RInv p s rn σ1.1 → RInv p s rn σ2.1 → SEq p σ1.1 σ2.1 → RunsTo p s rn σ2 r2 → (r1 = none ∧ r2 = none) ∨ ∃ a b, r1 = some a ∧ r2 = some b ∧ SEq p a.1 b.1 := by
  induction h with
  | over h1 =>
    intro σ2 r2 hR hR' hs h2
    cases h2 with
    | over h3 => exact .inl ⟨rfl, rfl⟩
    | more h3 _ _ => exact (over_seq hok hR hR' hs h1 h3).elim
    | next h3 _ _ _ => exact (over_seq hok hR hR' hs h1 h3).elim
    | done h3 _ _ => exact (over_seq hok hR hR' hs h1 h3).elim
  | more h1 ha _ ih =>
    intro σ2 r2 hR hR' hs h2
    cases h2 with
    | over h3 => exact (over_seq hok hR' hR hs.symm h3 h1).elim
    | more h3 hb h4 =>
      exact ih (round_law hok hR h1).1 (round_law hok hR' h3).1 (some_seq hok hR hR' hs h1 h3).1 h4
    | next h3 hb _ _ =>
      have := (some_seq hok hR hR' hs h1 h3).2
      rw [ha, hb] at this; cases this
    | done h3 hb _ =>
      have := (some_seq hok hR hR' hs h1 h3).2
      rw [ha, hb] at this; cases this
  | next h1 ha hl _ ih =>
    intro σ2 r2 hR hR' hs h2
    cases h2 with
    | over h3 => exact (over_seq hok hR' hR hs.symm h3 h1).elim
    | more h3 hb h4 =>
      have := (some_seq hok hR hR' hs h1 h3).2
      rw [ha, hb] at this; cases this
    | next h3 hb _ h4 =>
      exact ih (round_law hok hR h1).1.next (round_law hok hR' h3).1.next (some_seq hok hR hR' hs h1 h3).1 h4
    | done h3 hb hn => exact absurd hl hn
  | done h1 ha hl =>
    intro σ2 r2 hR hR' hs h2
    cases h2 with
    | over h3 => exact (over_seq hok hR' hR hs.symm h3 h1).elim
    | more h3 hb h4 =>
      have := (some_seq hok hR hR' hs h1 h3).2
      rw [ha, hb] at this; cases this
    | next h3 hb hn h4 => exact absurd hn hl
    | done h3 hb hn => exact .inr ⟨_, _, rfl, rfl, (some_seq hok hR hR' hs h1 h3).1⟩
end Go.Proofs.Qxb6500788a
