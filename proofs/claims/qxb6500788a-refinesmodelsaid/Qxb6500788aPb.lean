import Derived.Test.Qxb6500788aEh
import Derived.StillTailTactics
import Derived.Deep.QuietTactic
import Derived.BigQuiet
import Derived.Deep.RegionHeld
import Derived.Deep.CutRange
import Derived.Laws.ResultCell
import Derived.Laws.Rows
import Derived.DeepKeys
import Derived.DataBytes
import Derived.Laws.StructEq
import Derived.Laws.AppendOwn
import Derived.Laws.MakeOwn
set_option linter.unusedSimpArgs false
set_option linter.unusedVariables false
namespace Go.Proofs.Qxb6500788a
open Go.RowKit Go.Blk
attribute [local go_sem ↓] execOp_load execOp_store execOp_alloc
attribute [local go_sem] Try.ld24 Try.st24 Try.ld25 Try.st25 Try.ld3 Try.st3 Try.ld30 Try.st30 Try.ld36 Try.st36 Try.ld4 Try.st4 Try.ld41 Try.st41 Try.ld50 Try.st50 Try.ld40 Try.st40 Try.ld42 Try.st42 Try.ld89 Try.st89 Try.ld91 Try.st91 Try.ld56 Try.st56 Try.ld97 Try.st97 Try.ld98 Try.st98 Try.ld101 Try.st101 Try.ld104 Try.st104 Try.ld57 Try.st57 Try.ld130 Try.st130 Try.ld2 Try.st2 Try.ld5 Try.st5 Try.ld9 Try.st9 Try.ld12 Try.st12 Try.ld21 Try.st21 Try.ld22 Try.st22 Try.ld29 Try.st29 Try.ld33 Try.st33 Try.ld59 Try.st59 Try.ld62 Try.st62 Try.ld69 Try.st69 Try.ld94 Try.st94 Try.ld96 Try.st96 Try.ld129 Try.st129 Try.ld158 Try.st158 Try.ld162 Try.st162 Try.ld47 Try.st47 Try.ld44 Try.st44 Try.ld137 Try.st137 Try.ld145 Try.st145 Try.ld43 Try.st43 Try.ld27 Try.st27 Try.ld38 Try.st38 Try.ld46 Try.st46 Try.ld49 Try.st49 Try.ld52 Try.st52 Try.ld54 Try.st54 Try.ld61 Try.st61 Try.ld80 Try.st80 Try.ld87 Try.st87 Try.ld93 Try.st93 Try.ld100 Try.st100 Try.ld103 Try.st103 Try.ld106 Try.st106 Try.ld109 Try.st109 Try.ld132 Try.st132 Try.ld147 Try.st147 Try.al47 Try.al44 Try.al137 Try.al145 Try.al43 Try.al27 Try.al38 Try.al46 Try.al49 Try.al52 Try.al54 Try.al61 Try.al80 Try.al87 Try.al93 Try.al100 Try.al103 Try.al106 Try.al109 Try.al132 Try.al147
attribute [local go_sem] GProgram.length_enc GProgram.ok_enc GProgram.all_get GProgram.all_set GProgram.preds_get GProgram.preds_set GProgram.rules_get GProgram.rules_set GProgram.strata_get GProgram.strata_set Answer.length_enc Answer.ok_enc Answer.all_get Answer.all_set Answer.code_get Answer.code_set Answer.n_get Answer.n_set Answer.rows_get Answer.rows_set Term.length_enc Term.ok_enc Term.all_get Term.all_set Term.var_get Term.var_set Term.n_get Term.n_set Atom.length_enc Atom.ok_enc Atom.all_get Atom.all_set Atom.pred_get Atom.pred_set Atom.args_get Atom.args_set GRule.length_enc GRule.ok_enc GRule.all_get GRule.all_set GRule.head_get GRule.head_set GRule.body_get GRule.body_set GRule.head_pred_get GRule.head_pred_set GRule.head_args_get GRule.head_args_set GOp.length_enc GOp.ok_enc GOp.all_get GOp.all_set GOp.kind_get GOp.kind_set GOp.pred_get GOp.pred_set GOp.t_get GOp.t_set GOp.n_get GOp.n_set GOp.base_get GOp.base_set GOp.rule_get GOp.rule_set GOp.rule_head_get GOp.rule_head_set GOp.rule_body_get GOp.rule_body_set GOp.rule_head_pred_get GOp.rule_head_pred_set GOp.rule_head_args_get GOp.rule_head_args_set PredInfo.length_enc PredInfo.ok_enc PredInfo.all_get PredInfo.all_set PredInfo.arity_get PredInfo.arity_set PredInfo.base_get PredInfo.base_set PredInfo.stratum_get PredInfo.stratum_set GStats.length_enc GStats.ok_enc GStats.all_get GStats.all_set GStats.rounds_get GStats.rounds_set GStats.fired_get GStats.fired_set GStats.emitted_get GStats.emitted_set GStats.fresh_get GStats.fresh_set Literal.length_enc Literal.ok_enc Literal.all_get Literal.all_set Literal.neg_get Literal.neg_set Literal.atom_get Literal.atom_set Literal.atom_pred_get Literal.atom_pred_set Literal.atom_args_get Literal.atom_args_set Engine.length_enc Engine.ok_enc Engine.all_get Engine.all_set Engine.prog_get Engine.prog_set Engine.st_get Engine.st_set Engine.levels_get Engine.levels_set Engine.running_get Engine.running_set Engine.stratum_get Engine.stratum_set Engine.round_get Engine.round_set Engine.saved_get Engine.saved_set Engine.stats_get Engine.stats_set Engine.prog_preds_get Engine.prog_preds_set Engine.prog_rules_get Engine.prog_rules_set Engine.prog_strata_get Engine.prog_strata_set Engine.stats_rounds_get Engine.stats_rounds_set Engine.stats_fired_get Engine.stats_fired_set Engine.stats_emitted_get Engine.stats_emitted_set Engine.stats_fresh_get Engine.stats_fresh_set Level.length_enc Level.ok_enc Level.all_get Level.all_set Level.heads_get Level.heads_set Level.jobs_get Level.jobs_set Plan.length_enc Plan.ok_enc Plan.all_get Plan.all_set Plan.rule_get Plan.rule_set Plan.delta_get Plan.delta_set Plan.src_get Plan.src_set Job.length_enc Job.ok_enc Job.all_get Job.all_set Job.full_get Job.full_set Job.deltas_get Job.deltas_set Job.full_rule_get Job.full_rule_set Job.full_delta_get Job.full_delta_set Job.full_src_get Job.full_src_set GState.length_enc GState.ok_enc GState.all_get GState.all_set GState.prog_get GState.prog_set GState.base_get GState.base_set GState.shown_get GState.shown_set GState.prog_preds_get GState.prog_preds_set GState.prog_rules_get GState.prog_rules_set GState.prog_strata_get GState.prog_strata_set Store.length_enc Store.ok_enc Store.all_get Store.all_set Store.arity_get Store.arity_set Store.rows_get Store.rows_set Env.length_enc Env.ok_enc Env.all_get Env.all_set Env.val_get Env.val_set Env.set_get Env.set_set
attribute [local go_sem] size_put size_ext blk_put free_put blk_alloc free_alloc blk_drew free_drew blk_ext free_ext lookOr_some putOr_some segAt_some cellAt_some storeIn_some put_put put_alloc_new length_arr ok_arr_u8 ok_arr_u32 ok_arr_u64 ok_arr_i64 ok_arr_sl cellsV_agg cellsV_int cellsV_bool cellsV_string cellsV_pointer cellsV_slice cellsV_sl ok_int ok_bool ok_string ok_pointer ok_slice ok_sl toList_arr seg_arr set_arr nth_splice nth_splice0 seg_splice seg_splice0 splice_splice splice_splice0 length_splice_if
attribute [local go_sem ↓] execOp_box
attribute [local go_sem] box_run nth_arr_u8 put_arr_u8 blk_drewN free_drewN put_drewN blk_raw free_raw
/-- The store's rows and the counts of the run. -/
abbrev StQ := List (List Tup) × GStats
def hP (p : Pg) (k : Nat) : Nat := (hdP p k).pred.toNat
def outP (p : Pg) (S : List (List Tup)) (k : Nat) (d : Int) : List Tup := goM p.P S ((p.L k).zip (srcOf (p.L k) d)) (hdP p k) ((p.L k).zip (srcOf (p.L k) d)) Env.zero []
def newN (p : Pg) (S : List (List Tup)) (k : Nat) (d : Int) : List Tup := newL (rowsAt S (3 * hP p k)) (rowsAt S (3 * hP p k + 2)) (outP p S k d)
/-- A plan fired: none if a relation would be too large. -/
def fireO (p : Pg) (k : Nat) (d : Int) (s : StQ) : Option StQ :=
  if (rowsAt s.1 (3 * hP p k)).length + (newN p s.1 k d).length ≤ 512 then some (s.1.set (3 * hP p k + 2) (newN p s.1 k d), { s.2 with fired := wrap64 (s.2.fired + 1), emitted := wrap64 (s.2.emitted + (outP p s.1 k d).length), fresh := frN s.2.fresh ((newN p s.1 k d).length - (rowsAt s.1 (3 * hP p k + 2)).length) }) else none
/-- The predicate of place d of rule k's body. -/
def litP (p : Pg) (k d : Nat) : Nat := match (p.L k)[d]? with | some l => l.atom.pred.toNat | none => 0
def fireDO (p : Pg) (k d : Nat) (s : StQ) : Option StQ := if rowsAt s.1 (3 * litP p k d + 1) = [] then some s else fireO p k (d : Int) s
def foldO {α β : Type} (f : β → α → Option β) : List α → β → Option β
  | [], s => some s
  | a :: l, s => (f s a).bind (foldO f l)
theorem foldO_append {α β : Type} (f : β → α → Option β) : ∀ (l m : List α) (s : β), foldO f (l ++ m) s = (foldO f l s).bind (foldO f m)
  | [], m, s => rfl
  | a :: l, m, s => by
    show (f s a).bind (foldO f (l ++ m)) = ((f s a).bind (foldO f l)).bind (foldO f m)
    cases f s a with
    | none => rfl
    | some s' => exact foldO_append f l m s'
theorem foldO_take {α β : Type} {f : β → α → Option β} {l : List α} {i : Nat} {a : α} {s s' : β} (ha : l[i]? = some a) (h : foldO f (l.take i) s = some s') : foldO f (l.take (i + 1)) s = f s' a := by
  rw [take_at ha, foldO_append, h]
  show (f s' a).bind _ = _
  cases f s' a <;> rfl
theorem foldO_none {α β : Type} {f : β → α → Option β} {l : List α} {i : Nat} {a : α} {s s' : β} (ha : l[i]? = some a) (h : foldO f (l.take i) s = some s') (hn : f s' a = none) : foldO f l s = none := by
  have h1 : foldO f (l.take i ++ l.drop i) s = none := by
    rw [foldO_append, h, drop_at ha]
    show (f s' a).bind _ = none
    rw [hn]; rfl
  rwa [List.take_append_drop] at h1
def jobO (p : Pg) (s : Nat) (rn : Nat) (σ : StQ) (k : Nat) : Option StQ := if rn = 0 then fireO p k (-1) σ else foldO (fun σ d => fireDO p k d σ) (delOf p s k) σ
def jobsO (p : Pg) (s rn : Nat) (σ : StQ) : Option StQ := foldO (jobO p s rn) (jobsOf p s) σ
def RdOk (p : Pg) (s : Nat) (S : List (List Tup)) : Prop := S.length = 3 * p.P.length ∧ SOk S ∧ ∀ q ∈ headsOf p s, Pro S q
def BaseEq (p : Pg) (S S' : List (List Tup)) : Prop := S'.length = S.length ∧ ∀ q, q < p.P.length → basP p q = true → ∀ j, j < 3 → S'[3 * q + j]? = S[3 * q + j]?
theorem BaseEq.refl (p : Pg) (S : List (List Tup)) : BaseEq p S S := ⟨rfl, fun _ _ _ _ _ => rfl⟩
theorem BaseEq.trans {p : Pg} {S S' S'' : List (List Tup)} (h : BaseEq p S S') (h' : BaseEq p S' S'') : BaseEq p S S'' := ⟨h'.1.trans h.1, fun q hq hb j hj => (h'.2 q hq hb j hj).trans (h.2 q hq hb j hj)⟩
theorem hdP_some {p : Pg} {k : Nat} {r : GRule} (h : p.R[k]? = some r) : hdP p k = r.head := by
  unfold hdP
  rw [List.getD_eq_getElem?_getD, h]; rfl
theorem jobs_rule {p : Pg} {s k : Nat} (h : k ∈ jobsOf p s) : ∃ r, p.R[k]? = some r ∧ hdP p k = r.head := by
  unfold jobsOf at h
  have hk := List.mem_range.1 (List.mem_filter.1 h).1
  exact ⟨p.R[k], List.getElem?_eq_getElem hk, hdP_some (List.getElem?_eq_getElem hk)⟩
theorem jobs_head {p : Pg} (hok : PgOk p) {s k : Nat} (h : k ∈ jobsOf p s) : hP p k ∈ headsOf p s ∧ hP p k < p.P.length ∧ basP p (hP p k) = false ∧ (hdP p k).pred = (hP p k : Int) := by
  obtain ⟨r, hr, hd⟩ := jobs_rule h
  have h2 := (List.mem_filter.1 h).2
  obtain ⟨q, x, f1, f2, _⟩ := hok.head k r hr
  have hq : q < p.P.length := (List.getElem?_eq_some_iff.1 f2).1
  have e1 : hP p k = q := by unfold hP; rw [hd, f1]; rfl
  have hb : basP p (hP p k) = false := by unfold hP; rw [hd]; exact hok.der k r hr
  refine ⟨?_, by omega, hb, by rw [hd, f1, e1]⟩
  unfold headsOf
  refine List.mem_filter.2 ⟨List.mem_range.2 (by omega), ?_⟩
  rw [hb]
  exact h2
theorem BaseEq.next {p : Pg} (hok : PgOk p) {s k : Nat} (h : k ∈ jobsOf p s) (S : List (List Tup)) (N : List Tup) : BaseEq p S (S.set (3 * hP p k + 2) N) := by
  refine ⟨by simp, fun q hq hb j hj => List.getElem?_set_ne (fun e => ?_)⟩
  have h3 := (jobs_head hok h).2.2.1
  have : q = hP p k := by omega
  rw [← this, hb] at h3
  cases h3
theorem mem_newL {F : List Tup} {t : Tup} : ∀ {out N : List Tup}, t ∈ newL F N out ↔ t ∈ N ∨ (t ∈ out ∧ t ∉ F)
  | [], N => by
    show t ∈ N ↔ _
    exact ⟨.inl, fun h => h.elim id (fun h => by cases h.1)⟩
  | u :: out, N => by
    show t ∈ newL F (if u ∈ F then N else addT N u) out ↔ _
    rw [mem_newL (out := out), List.mem_cons]
    by_cases h : u ∈ F
    · rw [if_pos h]
      refine or_congr Iff.rfl ⟨fun ⟨h1, h2⟩ => ⟨.inr h1, h2⟩, fun ⟨h1, h2⟩ => ⟨h1.elim (fun e => absurd (e ▸ h) h2) id, h2⟩⟩
    · rw [if_neg h, mem_addT]
      constructor
      · rintro ((h1 | h1) | h1)
        · exact .inl h1
        · exact .inr ⟨.inl h1, h1 ▸ h⟩
        · exact .inr ⟨.inr h1.1, h1.2⟩
      · rintro (h1 | ⟨h1 | h1, h2⟩)
        · exact .inl (.inl h1)
        · exact .inl (.inr h1)
        · exact .inr ⟨h1, h2⟩
theorem newL_ok {F : List Tup} : ∀ {out N : List Tup}, OutOk N → (∀ t ∈ out, TOk t) → OutOk (newL F N out)
  | [], N, h, _ => h
  | u :: out, N, h, ho => by
    show OutOk (newL F (if u ∈ F then N else addT N u) out)
    refine newL_ok ?_ (fun t ht => ho t (List.mem_cons_of_mem _ ht))
    by_cases hu : u ∈ F
    · rw [if_pos hu]; exact h
    · rw [if_neg hu]; exact h.add (ho u (List.mem_cons_self ..))
theorem outP_ok {p : Pg} (hok : PgOk p) {S : List (List Tup)} (hS : SOk S) {s k : Nat} (h : k ∈ jobsOf p s) (d : Int) : OutOk (outP p S k d) := by
  obtain ⟨r, hr, hd⟩ := jobs_rule h
  unfold outP
  rw [hd]
  exact goM_ok hS (hok.head k r hr).fit _ _ _ (fun z hz => (hok.lits k r hr _ (List.of_mem_zip hz).1).fit) eok_zero outOk_nil
theorem sok_set {S : List (List Tup)} (h : SOk S) {r : Nat} {L : List Tup} (hl : L.length ≤ 512 ∧ OutOk L) : SOk (S.set r L) := by
  intro M hM
  rcases List.mem_or_eq_of_mem_set hM with h1 | h1
  · exact h M h1
  · rw [h1]; exact hl
theorem rowsAt_set {S : List (List Tup)} {r i : Nat} {L : List Tup} (hr : r < S.length) : rowsAt (S.set r L) i = if i = r then L else rowsAt S i := by
  unfold rowsAt
  rw [List.getD_eq_getElem?_getD, List.getElem?_set]
  by_cases h : i = r
  · subst h; rw [if_pos rfl, if_pos hr, if_pos rfl]; rfl
  · rw [if_neg (fun e => h e.symm), if_neg h, List.getD_eq_getElem?_getD]
theorem fireO_ok {p : Pg} (hok : PgOk p) {s k : Nat} (hk : k ∈ jobsOf p s) {d : Int} {σ σ' : StQ} (hR : RdOk p s σ.1) (h : fireO p k d σ = some σ') : RdOk p s σ'.1 ∧ BaseEq p σ.1 σ'.1 := by
  unfold fireO at h
  by_cases hc : (rowsAt σ.1 (3 * hP p k)).length + (newN p σ.1 k d).length ≤ 512
  · rw [if_pos hc] at h
    injection h with h
    subst h
    obtain ⟨h1, h2, h3⟩ := hR
    obtain ⟨j1, j2, j3, j4⟩ := jobs_head hok hk
    have hN := (h2.at (3 * hP p k + 2)).2
    have hn : OutOk (newN p σ.1 k d) := newL_ok hN (outP_ok hok h2 hk d).2
    refine ⟨⟨by rw [List.length_set]; exact h1, sok_set h2 ⟨by omega, hn⟩, fun q hq => ?_⟩, BaseEq.next hok hk _ _⟩
    unfold Pro
    rw [rowsAt_set (by omega), rowsAt_set (by omega)]
    rw [if_neg (by omega : ¬ 3 * q = 3 * hP p k + 2)]
    by_cases hqh : q = hP p k
    · subst hqh
      rw [if_pos rfl]
      refine ⟨hn.1, fun t ht => ?_, hc⟩
      rcases mem_newL.1 ht with h | h
      · exact (h3 _ hq).2.1 t h
      · exact h.2
    · rw [if_neg (by omega)]
      exact h3 q hq
  · rw [if_neg hc] at h; cases h
theorem fireDO_ok {p : Pg} (hok : PgOk p) {s k : Nat} (hk : k ∈ jobsOf p s) {d : Nat} {σ σ' : StQ} (hR : RdOk p s σ.1) (h : fireDO p k d σ = some σ') : RdOk p s σ'.1 ∧ BaseEq p σ.1 σ'.1 := by
  unfold fireDO at h
  by_cases hc : rowsAt σ.1 (3 * litP p k d + 1) = []
  · rw [if_pos hc] at h; injection h with h; subst h; exact ⟨hR, BaseEq.refl _ _⟩
  · rw [if_neg hc] at h; exact fireO_ok hok hk hR h
theorem foldO_inv {α β : Type} {f : β → α → Option β} {I : β → Prop} {R : β → β → Prop} (hr : ∀ s, R s s) (ht : ∀ a b c, R a b → R b c → R a c) : ∀ {l : List α} {s s' : β}, (∀ a ∈ l, ∀ s s', I s → f s a = some s' → I s' ∧ R s s') → I s → foldO f l s = some s' → I s' ∧ R s s'
  | [], s, s', _, hI, h => by injection h with h; subst h; exact ⟨hI, hr _⟩
  | a :: l, s, s', hf, hI, h => by
    have h' : (f s a).bind (foldO f l) = some s' := h
    obtain ⟨s1, h1, h2⟩ := Option.bind_eq_some_iff.1 h'
    obtain ⟨i1, r1⟩ := hf a (List.mem_cons_self ..) s s1 hI h1
    obtain ⟨i2, r2⟩ := foldO_inv hr ht (fun b hb => hf b (List.mem_cons_of_mem _ hb)) i1 h2
    exact ⟨i2, ht _ _ _ r1 r2⟩
theorem foldD_ok {p : Pg} (hok : PgOk p) {s k : Nat} (hk : k ∈ jobsOf p s) {ds : List Nat} {σ σ' : StQ} (hR : RdOk p s σ.1) (h : foldO (fun σ d => fireDO p k d σ) ds σ = some σ') : RdOk p s σ'.1 ∧ BaseEq p σ.1 σ'.1 :=
  foldO_inv (I := fun σ : StQ => RdOk p s σ.1) (R := fun σ σ' : StQ => BaseEq p σ.1 σ'.1) (fun _ => BaseEq.refl _ _) (fun _ _ _ => BaseEq.trans) (fun d _ σ σ' hI hf => fireDO_ok hok hk hI hf) hR h
theorem jobO_ok {p : Pg} (hok : PgOk p) {s rn k : Nat} (hk : k ∈ jobsOf p s) {σ σ' : StQ} (hR : RdOk p s σ.1) (h : jobO p s rn σ k = some σ') : RdOk p s σ'.1 ∧ BaseEq p σ.1 σ'.1 := by
  unfold jobO at h
  by_cases hn : rn = 0
  · rw [if_pos hn] at h; exact fireO_ok hok hk hR h
  · rw [if_neg hn] at h; exact foldD_ok hok hk hR h
theorem jobs_ok {p : Pg} (hok : PgOk p) {s rn : Nat} {ks : List Nat} (hks : ∀ k ∈ ks, k ∈ jobsOf p s) {σ σ' : StQ} (hR : RdOk p s σ.1) (h : foldO (jobO p s rn) ks σ = some σ') : RdOk p s σ'.1 ∧ BaseEq p σ.1 σ'.1 :=
  foldO_inv (I := fun σ : StQ => RdOk p s σ.1) (R := fun σ σ' : StQ => BaseEq p σ.1 σ'.1) (fun _ => BaseEq.refl _ _) (fun _ _ _ => BaseEq.trans) (fun k hk σ σ' hI hf => jobO_ok hok (hks k hk) hI hf) hR h
end Go.Proofs.Qxb6500788a
