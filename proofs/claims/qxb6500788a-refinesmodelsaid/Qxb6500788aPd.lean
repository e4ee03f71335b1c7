import Derived.Test.Qxb6500788aPc
import Derived.StillTailTactics
import Derived.Deep.QuietTactic
import Derived.BigQuiet
import Derived.Deep.RegionHeld
import Derived.Deep.CutRange
import Derived.Laws.ResultCell
import Derived.Laws.Rows
import Derived.DeepKeys
import Derived.DataBytes
import Derived.Laws.StructEq
import Derived.Laws.AppendOwn
import Derived.Laws.MakeOwn
set_option linter.unusedSimpArgs false
set_option linter.unusedVariables false
namespace Go.Proofs.Qxb6500788a
open Go.RowKit Go.Blk
attribute [local go_sem ↓] execOp_load execOp_store execOp_alloc
attribute [local go_sem] Try.ld24 Try.st24 Try.ld25 Try.st25 Try.ld3 Try.st3 Try.ld30 Try.st30 Try.ld36 Try.st36 Try.ld4 Try.st4 Try.ld41 Try.st41 Try.ld50 Try.st50 Try.ld40 Try.st40 Try.ld42 Try.st42 Try.ld89 Try.st89 Try.ld91 Try.st91 Try.ld56 Try.st56 Try.ld97 Try.st97 Try.ld98 Try.st98 Try.ld101 Try.st101 Try.ld104 Try.st104 Try.ld57 Try.st57 Try.ld130 Try.st130 Try.ld2 Try.st2 Try.ld5 Try.st5 Try.ld9 Try.st9 Try.ld12 Try.st12 Try.ld21 Try.st21 Try.ld22 Try.st22 Try.ld29 Try.st29 Try.ld33 Try.st33 Try.ld59 Try.st59 Try.ld62 Try.st62 Try.ld69 Try.st69 Try.ld94 Try.st94 Try.ld96 Try.st96 Try.ld129 Try.st129 Try.ld158 Try.st158 Try.ld162 Try.st162 Try.ld47 Try.st47 Try.ld44 Try.st44 Try.ld137 Try.st137 Try.ld145 Try.st145 Try.ld43 Try.st43 Try.ld27 Try.st27 Try.ld38 Try.st38 Try.ld46 Try.st46 Try.ld49 Try.st49 Try.ld52 Try.st52 Try.ld54 Try.st54 Try.ld61 Try.st61 Try.ld80 Try.st80 Try.ld87 Try.st87 Try.ld93 Try.st93 Try.ld100 Try.st100 Try.ld103 Try.st103 Try.ld106 Try.st106 Try.ld109 Try.st109 Try.ld132 Try.st132 Try.ld147 Try.st147 Try.al47 Try.al44 Try.al137 Try.al145 Try.al43 Try.al27 Try.al38 Try.al46 Try.al49 Try.al52 Try.al54 Try.al61 Try.al80 Try.al87 Try.al93 Try.al100 Try.al103 Try.al106 Try.al109 Try.al132 Try.al147
attribute [local go_sem] GProgram.length_enc GProgram.ok_enc GProgram.all_get GProgram.all_set GProgram.preds_get GProgram.preds_set GProgram.rules_get GProgram.rules_set GProgram.strata_get GProgram.strata_set Answer.length_enc Answer.ok_enc Answer.all_get Answer.all_set Answer.code_get Answer.code_set Answer.n_get Answer.n_set Answer.rows_get Answer.rows_set Term.length_enc Term.ok_enc Term.all_get Term.all_set Term.var_get Term.var_set Term.n_get Term.n_set Atom.length_enc Atom.ok_enc Atom.all_get Atom.all_set Atom.pred_get Atom.pred_set Atom.args_get Atom.args_set GRule.length_enc GRule.ok_enc GRule.all_get GRule.all_set GRule.head_get GRule.head_set GRule.body_get GRule.body_set GRule.head_pred_get GRule.head_pred_set GRule.head_args_get GRule.head_args_set GOp.length_enc GOp.ok_enc GOp.all_get GOp.all_set GOp.kind_get GOp.kind_set GOp.pred_get GOp.pred_set GOp.t_get GOp.t_set GOp.n_get GOp.n_set GOp.base_get GOp.base_set GOp.rule_get GOp.rule_set GOp.rule_head_get GOp.rule_head_set GOp.rule_body_get GOp.rule_body_set GOp.rule_head_pred_get GOp.rule_head_pred_set GOp.rule_head_args_get GOp.rule_head_args_set PredInfo.length_enc PredInfo.ok_enc PredInfo.all_get PredInfo.all_set PredInfo.arity_get PredInfo.arity_set PredInfo.base_get PredInfo.base_set PredInfo.stratum_get PredInfo.stratum_set GStats.length_enc GStats.ok_enc GStats.all_get GStats.all_set GStats.rounds_get GStats.rounds_set GStats.fired_get GStats.fired_set GStats.emitted_get GStats.emitted_set GStats.fresh_get GStats.fresh_set Literal.length_enc Literal.ok_enc Literal.all_get Literal.all_set Literal.neg_get Literal.neg_set Literal.atom_get Literal.atom_set Literal.atom_pred_get Literal.atom_pred_set Literal.atom_args_get Literal.atom_args_set Engine.length_enc Engine.ok_enc Engine.all_get Engine.all_set Engine.prog_get Engine.prog_set Engine.st_get Engine.st_set Engine.levels_get Engine.levels_set Engine.running_get Engine.running_set Engine.stratum_get Engine.stratum_set Engine.round_get Engine.round_set Engine.saved_get Engine.saved_set Engine.stats_get Engine.stats_set Engine.prog_preds_get Engine.prog_preds_set Engine.prog_rules_get Engine.prog_rules_set Engine.prog_strata_get Engine.prog_strata_set Engine.stats_rounds_get Engine.stats_rounds_set Engine.stats_fired_get Engine.stats_fired_set Engine.stats_emitted_get Engine.stats_emitted_set Engine.stats_fresh_get Engine.stats_fresh_set Level.length_enc Level.ok_enc Level.all_get Level.all_set Level.heads_get Level.heads_set Level.jobs_get Level.jobs_set Plan.length_enc Plan.ok_enc Plan.all_get Plan.all_set Plan.rule_get Plan.rule_set Plan.delta_get Plan.delta_set Plan.src_get Plan.src_set Job.length_enc Job.ok_enc Job.all_get Job.all_set Job.full_get Job.full_set Job.deltas_get Job.deltas_set Job.full_rule_get Job.full_rule_set Job.full_delta_get Job.full_delta_set Job.full_src_get Job.full_src_set GState.length_enc GState.ok_enc GState.all_get GState.all_set GState.prog_get GState.prog_set GState.base_get GState.base_set GState.shown_get GState.shown_set GState.prog_preds_get GState.prog_preds_set GState.prog_rules_get GState.prog_rules_set GState.prog_strata_get GState.prog_strata_set Store.length_enc Store.ok_enc Store.all_get Store.all_set Store.arity_get Store.arity_set Store.rows_get Store.rows_set Env.length_enc Env.ok_enc Env.all_get Env.all_set Env.val_get Env.val_set Env.set_get Env.set_set
attribute [local go_sem] size_put size_ext blk_put free_put blk_alloc free_alloc blk_drew free_drew blk_ext free_ext lookOr_some putOr_some segAt_some cellAt_some storeIn_some put_put put_alloc_new length_arr ok_arr_u8 ok_arr_u32 ok_arr_u64 ok_arr_i64 ok_arr_sl cellsV_agg cellsV_int cellsV_bool cellsV_string cellsV_pointer cellsV_slice cellsV_sl ok_int ok_bool ok_string ok_pointer ok_slice ok_sl toList_arr seg_arr set_arr nth_splice nth_splice0 seg_splice seg_splice0 splice_splice splice_splice0 length_splice_if
attribute [local go_sem ↓] execOp_box
attribute [local go_sem] box_run nth_arr_u8 put_arr_u8 blk_drewN free_drewN put_drewN blk_raw free_raw
/-- Rows hold zeros past their predicate's arity. -/
def PadS (p : Pg) (S : List (List Tup)) : Prop := ∀ q j, q < p.P.length → j < 3 → ∀ t ∈ rowsAt S (3 * q + j), ∀ c, (p.P.getD q ⟨0, false, 0⟩).arity.toNat ≤ c → c < 4 → tg t c = 0
theorem lit_q {p : Pg} (hok : PgOk p) {k : Nat} {r : GRule} (hr : p.R[k]? = some r) {l : Literal} (hl : l ∈ p.L k) : l.atom.pred.toNat < p.P.length := by
  obtain ⟨q, x, f1, f2, _⟩ := hok.lits k r hr l hl
  have := (List.getElem?_eq_some_iff.1 f2).1
  rw [f1, Int.toNat_natCast]; exact this
theorem zip_mem {L : List Literal} {d : Int} {z : Literal × Nat} : z ∈ L.zip (srcOf L d) ↔ ∃ i : Nat, L[i]? = some z.1 ∧ z.2 = if (i : Int) = d then 3 * z.1.atom.pred.toNat + 1 else 3 * z.1.atom.pred.toNat := by
  constructor
  · intro h
    obtain ⟨i, hi⟩ := List.mem_iff_getElem?.1 h
    rw [List.getElem?_zip_eq_some] at hi
    refine ⟨i, hi.1, ?_⟩
    have h2 := hi.2
    unfold srcOf at h2
    rw [List.getElem?_mapIdx, hi.1] at h2
    exact (Option.some.inj h2).symm
  · rintro ⟨i, h1, h2⟩
    refine List.mem_iff_getElem?.2 ⟨i, List.getElem?_zip_eq_some.2 ⟨h1, ?_⟩⟩
    unfold srcOf
    rw [List.getElem?_mapIdx, h1, h2]
    rfl
theorem outP_sem {p : Pg} (hok : PgOk p) {S : List (List Tup)} (hp : PadS p S) {k : Nat} {r : GRule} (hr : p.R[k]? = some r) (d : Int) (t : Tup) :
    t ∈ outP p S k d ↔ ∃ σ : Nat → Int, (∀ (i : Nat) (l : Literal), (p.L k)[i]? = some l → (sT l.atom σ (arA p.P l.atom) ∈ rowsAt S (if (i : Int) = d then 3 * l.atom.pred.toNat + 1 else 3 * l.atom.pred.toNat) ↔ l.neg = false)) ∧ t = sT (hdP p k) σ (arA p.P (hdP p k)) := by
  unfold outP
  have hmap : ((p.L k).zip (srcOf (p.L k) d)).map (·.1) = p.L k := by
    rw [List.map_fst_zip]
    unfold srcOf
    rw [List.length_mapIdx]; exact Nat.le_refl _
  have hfit : ZFit p.P ((p.L k).zip (srcOf (p.L k) d)) := fun z hz => (hok.lits k r hr _ (List.of_mem_zip hz).1).fit
  have hpad : ZPad p.P S ((p.L k).zip (srcOf (p.L k) d)) := fun z hz row hrow c hc hc4 => by
    have hq := lit_q hok hr (List.of_mem_zip hz).1
    obtain ⟨i, _, h2⟩ := zip_mem.1 hz
    rw [h2] at hrow
    by_cases hid : (i : Int) = d
    · rw [if_pos hid] at hrow
      exact hp _ 1 hq (by omega) row hrow c hc hc4
    · rw [if_neg hid] at hrow
      exact hp _ 0 hq (by omega) row hrow c hc hc4
  rw [hdP_some hr]
  rw [goM_sem hfit hpad (hok.head k r hr).fit (by rw [hmap]; exact hok.rsH k r hr) (fun z hz hn => by rw [hmap]; exact hok.rsN k r hr _ (List.of_mem_zip hz).1 hn)]
  refine exists_congr (fun σ => and_congr ⟨fun h i l hl => ?_, fun h z hz => ?_⟩ Iff.rfl)
  · exact h (l, _) (zip_mem.2 ⟨i, hl, rfl⟩)
  · obtain ⟨i, h1, h2⟩ := zip_mem.1 hz
    rw [h2]
    exact h i z.1 h1
/-- Same full and delta relations. -/
def Ag (S S' : List (List Tup)) : Prop := ∀ q, rowsAt S' (3 * q) = rowsAt S (3 * q) ∧ rowsAt S' (3 * q + 1) = rowsAt S (3 * q + 1)
theorem Ag.of_j {p : Pg} {s : Nat} {S S' : List (List Tup)} (h : JEq p s S S') : Ag S S' := fun q => ⟨rowsAt_congr (h.2 _ (fun z hz => by omega)), rowsAt_congr (h.2 _ (fun z hz => by omega))⟩
theorem outP_ag {p : Pg} (hok : PgOk p) {S S' : List (List Tup)} (hp : PadS p S) (hp' : PadS p S') (ha : Ag S S') {k : Nat} {r : GRule} (hr : p.R[k]? = some r) (d : Int) (t : Tup) : t ∈ outP p S' k d ↔ t ∈ outP p S k d := by
  rw [outP_sem hok hp hr, outP_sem hok hp' hr]
  have e : ∀ (i : Nat) (l : Literal), rowsAt S' (if (i : Int) = d then 3 * l.atom.pred.toNat + 1 else 3 * l.atom.pred.toNat) = rowsAt S (if (i : Int) = d then 3 * l.atom.pred.toNat + 1 else 3 * l.atom.pred.toNat) := fun i l => by
    by_cases hid : (i : Int) = d
    · rw [if_pos hid]; exact (ha _).2
    · rw [if_neg hid]; exact (ha _).1
  simp only [e]
theorem outP_pad {p : Pg} (hok : PgOk p) {S : List (List Tup)} (hp : PadS p S) {k : Nat} {r : GRule} (hr : p.R[k]? = some r) {d : Int} {t : Tup} (h : t ∈ outP p S k d) : ∀ c, (p.P.getD (hP p k) ⟨0, false, 0⟩).arity.toNat ≤ c → c < 4 → tg t c = 0 := by
  intro c hc hc4
  obtain ⟨σ, _, rfl⟩ := (outP_sem hok hp hr d t).1 h
  rw [tg_sT _ _ _ _ hc4, if_neg]
  unfold arA
  unfold hP at hc
  omega
theorem jobs_r {p : Pg} {s k : Nat} (h : k ∈ jobsOf p s) : ∃ r, p.R[k]? = some r := by
  obtain ⟨r, hr, _⟩ := jobs_rule h
  exact ⟨r, hr⟩
/-- What a rule's plans of a round emit. -/
def Em (p : Pg) (S : List (List Tup)) (s rn k : Nat) (t : Tup) : Prop := if rn = 0 then t ∈ outP p S k (-1) else ∃ d ∈ delOf p s k, rowsAt S (3 * litP p k d + 1) ≠ [] ∧ t ∈ outP p S k (d : Int)
theorem fireO_pad {p : Pg} (hok : PgOk p) {s k : Nat} (hk : k ∈ jobsOf p s) {d : Int} {σ σ' : StQ} (hl : σ.1.length = 3 * p.P.length) (hp : PadS p σ.1) (h : fireO p k d σ = some σ') : PadS p σ'.1 ∧ (∀ q t, t ∈ rowsAt σ'.1 (3 * q + 2) ↔ t ∈ rowsAt σ.1 (3 * q + 2) ∨ (hP p k = q ∧ t ∈ outP p σ.1 k d ∧ t ∉ rowsAt σ.1 (3 * q))) := by
  obtain ⟨r, hr⟩ := jobs_r hk
  have hh := jobs_head hok hk
  unfold fireO at h
  by_cases hc : (rowsAt σ.1 (3 * hP p k)).length + (newN p σ.1 k d).length ≤ 512
  · rw [if_pos hc] at h
    injection h with h
    subst h
    refine ⟨fun q j hq hj t ht => ?_, fun q t => ?_⟩
    · rw [rowsAt_set (by omega)] at ht
      by_cases he : 3 * q + j = 3 * hP p k + 2
      · rw [if_pos he] at ht
        have e1 : q = hP p k := by omega
        rcases mem_newL.1 ht with h | h
        · exact hp q j hq hj t (by rw [he]; exact h)
        · rw [e1]; exact outP_pad hok hp hr h.1
      · rw [if_neg he] at ht
        exact hp q j hq hj t ht
    · show t ∈ rowsAt (σ.1.set (3 * hP p k + 2) (newN p σ.1 k d)) (3 * q + 2) ↔ _
      rw [rowsAt_set (by omega)]
      by_cases he : q = hP p k
      · subst he
        rw [if_pos rfl]
        unfold newN
        rw [mem_newL]
        exact ⟨fun h => h.elim .inl (fun h => .inr ⟨rfl, h⟩), fun h => h.elim .inl (fun h => .inr h.2)⟩
      · rw [if_neg (by omega)]
        exact ⟨.inl, fun h => h.elim id (fun h => absurd h.1.symm he)⟩
  · rw [if_neg hc] at h; cases h
theorem fireO_over {p : Pg} (hok : PgOk p) {s k : Nat} (hk : k ∈ jobsOf p s) {d : Int} {σ : StQ} (hR : RdOk p s σ.1) (h : fireO p k d σ = none) : ∃ N : List Tup, N.Nodup ∧ 512 < (rowsAt σ.1 (3 * hP p k)).length + N.length ∧ ∀ t ∈ N, t ∈ rowsAt σ.1 (3 * hP p k + 2) ∨ (t ∈ outP p σ.1 k d ∧ t ∉ rowsAt σ.1 (3 * hP p k)) := by
  unfold fireO at h
  by_cases hc : (rowsAt σ.1 (3 * hP p k)).length + (newN p σ.1 k d).length ≤ 512
  · rw [if_pos hc] at h; cases h
  · have hN := (hR.2.1.at (3 * hP p k + 2)).2
    refine ⟨newN p σ.1 k d, (newL_ok hN (outP_ok hok hR.2.1 hk d).2).1, by omega, fun t ht => ?_⟩
    exact mem_newL.1 ht
/-- The plans of a list of rules. -/
structure JI (p : Pg) (S : List (List Tup)) (s : Nat) (σ : StQ) : Prop where
  rd : RdOk p s σ.1
  pad : PadS p σ.1
  ag : Ag S σ.1
theorem fire_ji {p : Pg} (hok : PgOk p) {S : List (List Tup)} (hp0 : PadS p S) {s k : Nat} (hk : k ∈ jobsOf p s) {d : Int} {σ σ' : StQ} (hJ : JI p S s σ) (h : fireO p k d σ = some σ') : JI p S s σ' ∧ ∀ q t, t ∈ rowsAt σ'.1 (3 * q + 2) ↔ t ∈ rowsAt σ.1 (3 * q + 2) ∨ (t ∉ rowsAt S (3 * q) ∧ hP p k = q ∧ t ∈ outP p S k d) := by
  obtain ⟨r, hr⟩ := jobs_r hk
  obtain ⟨h1, h2⟩ := fireO_pad hok hk hJ.rd.1 hJ.pad h
  have hj := Ag.of_j (fireO_j hok hk h)
  refine ⟨⟨(fireO_ok hok hk hJ.rd h).1, h1, fun q => ⟨(hj q).1.trans (hJ.ag q).1, (hj q).2.trans (hJ.ag q).2⟩⟩, fun q t => ?_⟩
  rw [h2, (hJ.ag q).1, outP_ag hok hp0 hJ.pad hJ.ag hr]
  refine or_congr Iff.rfl ⟨fun h => ⟨h.2.2, h.1, h.2.1⟩, fun h => ⟨h.2.1, h.2.2, h.1⟩⟩
theorem fold_ji {α : Type} {p : Pg} {S : List (List Tup)} {s : Nat} {f : StQ → α → Option StQ} {E : α → Nat → Tup → Prop} : ∀ (l : List α), (∀ a ∈ l, ∀ σ σ', JI p S s σ → f σ a = some σ' → JI p S s σ' ∧ ∀ q t, t ∈ rowsAt σ'.1 (3 * q + 2) ↔ t ∈ rowsAt σ.1 (3 * q + 2) ∨ (t ∉ rowsAt S (3 * q) ∧ E a q t)) → ∀ σ σ', JI p S s σ → foldO f l σ = some σ' → JI p S s σ' ∧ ∀ q t, t ∈ rowsAt σ'.1 (3 * q + 2) ↔ t ∈ rowsAt σ.1 (3 * q + 2) ∨ (t ∉ rowsAt S (3 * q) ∧ ∃ a ∈ l, E a q t)
  | [], _, σ, σ', hJ, h => by
    injection h with h; subst h
    exact ⟨hJ, fun q t => ⟨.inl, fun h => h.elim id (fun ⟨_, _, h, _⟩ => by cases h)⟩⟩
  | a :: l, hf, σ, σ', hJ, h => by
    have h' : (f σ a).bind (foldO f l) = some σ' := h
    obtain ⟨σ1, h1, h2⟩ := Option.bind_eq_some_iff.1 h'
    obtain ⟨j1, m1⟩ := hf a (List.mem_cons_self ..) σ σ1 hJ h1
    obtain ⟨j2, m2⟩ := fold_ji l (fun b hb => hf b (List.mem_cons_of_mem _ hb)) σ1 σ' j1 h2
    refine ⟨j2, fun q t => ?_⟩
    rw [m2, m1, or_assoc]
    refine or_congr Iff.rfl ⟨fun h => ?_, fun ⟨hn, b, hb, he⟩ => ?_⟩
    · rcases h with ⟨hn, he⟩ | ⟨hn, b, hb, he⟩
      · exact ⟨hn, a, List.mem_cons_self .., he⟩
      · exact ⟨hn, b, List.mem_cons_of_mem _ hb, he⟩
    · rcases List.mem_cons.1 hb with rfl | hb
      · exact .inl ⟨hn, he⟩
      · exact .inr ⟨hn, b, hb, he⟩
/-- A relation grown too large, with its new tuples. -/
def Ovr (S0 S : List (List Tup)) (E : Nat → Tup → Prop) : Prop := ∃ q, ∃ N : List Tup, N.Nodup ∧ 512 < (rowsAt S (3 * q)).length + N.length ∧ ∀ t ∈ N, t ∈ rowsAt S0 (3 * q + 2) ∨ (t ∉ rowsAt S (3 * q) ∧ E q t)
theorem fold_over {α : Type} {p : Pg} {S : List (List Tup)} {s : Nat} {f : StQ → α → Option StQ} {E : α → Nat → Tup → Prop} : ∀ (l : List α), (∀ a ∈ l, ∀ σ σ', JI p S s σ → f σ a = some σ' → JI p S s σ' ∧ ∀ q t, t ∈ rowsAt σ'.1 (3 * q + 2) ↔ t ∈ rowsAt σ.1 (3 * q + 2) ∨ (t ∉ rowsAt S (3 * q) ∧ E a q t)) → (∀ a ∈ l, ∀ σ, JI p S s σ → f σ a = none → Ovr σ.1 S (E a)) → ∀ σ, JI p S s σ → foldO f l σ = none → Ovr σ.1 S (fun q t => ∃ a ∈ l, E a q t)
  | [], _, _, σ, _, h => by cases h
  | a :: l, hf, ho, σ, hJ, h => by
    have h' : (f σ a).bind (foldO f l) = none := h
    cases h1 : f σ a with
    | none =>
      obtain ⟨q, N, n1, n2, n3⟩ := ho a (List.mem_cons_self ..) σ hJ h1
      exact ⟨q, N, n1, n2, fun t ht => (n3 t ht).elim .inl (fun h => .inr ⟨h.1, a, List.mem_cons_self .., h.2⟩)⟩
    | some σ1 =>
      rw [h1] at h'
      obtain ⟨j1, m1⟩ := hf a (List.mem_cons_self ..) σ σ1 hJ h1
      obtain ⟨q, N, n1, n2, n3⟩ := fold_over l (fun b hb => hf b (List.mem_cons_of_mem _ hb)) (fun b hb => ho b (List.mem_cons_of_mem _ hb)) σ1 j1 h'
      refine ⟨q, N, n1, n2, fun t ht => ?_⟩
      rcases n3 t ht with h | ⟨hn, b, hb, he⟩
      · rcases (m1 q t).1 h with h | h
        · exact .inl h
        · exact .inr ⟨h.1, a, List.mem_cons_self .., h.2⟩
      · exact .inr ⟨hn, b, List.mem_cons_of_mem _ hb, he⟩
theorem fire_ovr {p : Pg} (hok : PgOk p) {S : List (List Tup)} (hp0 : PadS p S) {s k : Nat} (hk : k ∈ jobsOf p s) {d : Int} {σ : StQ} (hJ : JI p S s σ) (h : fireO p k d σ = none) : Ovr σ.1 S (fun q t => hP p k = q ∧ t ∈ outP p S k d) := by
  obtain ⟨r, hr⟩ := jobs_r hk
  obtain ⟨N, n1, n2, n3⟩ := fireO_over hok hk hJ.rd h
  refine ⟨hP p k, N, n1, by rw [← (hJ.ag _).1]; exact n2, fun t ht => ?_⟩
  rcases n3 t ht with h | h
  · exact .inl h
  · rw [outP_ag hok hp0 hJ.pad hJ.ag hr, (hJ.ag _).1] at h
    exact .inr ⟨h.2, rfl, h.1⟩
def EmD (p : Pg) (S : List (List Tup)) (k d : Nat) (q : Nat) (t : Tup) : Prop := hP p k = q ∧ rowsAt S (3 * litP p k d + 1) ≠ [] ∧ t ∈ outP p S k (d : Int)
theorem fireD_ji {p : Pg} (hok : PgOk p) {S : List (List Tup)} (hp0 : PadS p S) {s k : Nat} (hk : k ∈ jobsOf p s) {d : Nat} {σ σ' : StQ} (hJ : JI p S s σ) (h : fireDO p k d σ = some σ') : JI p S s σ' ∧ ∀ q t, t ∈ rowsAt σ'.1 (3 * q + 2) ↔ t ∈ rowsAt σ.1 (3 * q + 2) ∨ (t ∉ rowsAt S (3 * q) ∧ EmD p S k d q t) := by
  unfold fireDO at h
  rw [(hJ.ag _).2] at h
  unfold EmD
  by_cases hc : rowsAt S (3 * litP p k d + 1) = []
  · rw [if_pos hc] at h
    injection h with h; subst h
    exact ⟨hJ, fun q t => ⟨.inl, fun h => h.elim id (fun h => absurd hc h.2.2.1)⟩⟩
  · rw [if_neg hc] at h
    obtain ⟨h1, h2⟩ := fire_ji hok hp0 hk hJ h
    refine ⟨h1, fun q t => ?_⟩
    rw [h2]
    exact or_congr Iff.rfl (and_congr Iff.rfl (and_congr Iff.rfl ⟨fun h => ⟨hc, h⟩, fun h => h.2⟩))
theorem fireD_ovr {p : Pg} (hok : PgOk p) {S : List (List Tup)} (hp0 : PadS p S) {s k : Nat} (hk : k ∈ jobsOf p s) {d : Nat} {σ : StQ} (hJ : JI p S s σ) (h : fireDO p k d σ = none) : Ovr σ.1 S (EmD p S k d) := by
  unfold fireDO at h
  rw [(hJ.ag _).2] at h
  by_cases hc : rowsAt S (3 * litP p k d + 1) = []
  · rw [if_pos hc] at h; cases h
  · rw [if_neg hc] at h
    obtain ⟨q, N, n1, n2, n3⟩ := fire_ovr hok hp0 hk hJ h
    exact ⟨q, N, n1, n2, fun t ht => (n3 t ht).elim .inl (fun h => .inr ⟨h.1, h.2.1, hc, h.2.2⟩)⟩
theorem em_iff {p : Pg} {S : List (List Tup)} {s rn k q : Nat} {t : Tup} : (hP p k = q ∧ Em p S s rn k t) ↔ if rn = 0 then (hP p k = q ∧ t ∈ outP p S k (-1)) else ∃ d ∈ delOf p s k, EmD p S k d q t := by
  unfold Em EmD
  by_cases h : rn = 0
  · rw [if_pos h, if_pos h]
  · rw [if_neg h, if_neg h]
    exact ⟨fun ⟨h1, d, h2, h3, h4⟩ => ⟨d, h2, h1, h3, h4⟩, fun ⟨d, h2, h1, h3, h4⟩ => ⟨h1, d, h2, h3, h4⟩⟩
theorem job_ji {p : Pg} (hok : PgOk p) {S : List (List Tup)} (hp0 : PadS p S) {s rn k : Nat} (hk : k ∈ jobsOf p s) {σ σ' : StQ} (hJ : JI p S s σ) (h : jobO p s rn σ k = some σ') : JI p S s σ' ∧ ∀ q t, t ∈ rowsAt σ'.1 (3 * q + 2) ↔ t ∈ rowsAt σ.1 (3 * q + 2) ∨ (t ∉ rowsAt S (3 * q) ∧ (hP p k = q ∧ Em p S s rn k t)) := by
  unfold jobO at h
  simp only [em_iff]
  by_cases hn : rn = 0
  · rw [if_pos hn] at h
    simp only [if_pos hn]
    exact fire_ji hok hp0 hk hJ h
  · rw [if_neg hn] at h
    simp only [if_neg hn]
    exact fold_ji (E := fun d q t => EmD p S k d q t) _ (fun d _ σ σ' hJ hf => fireD_ji hok hp0 hk hJ hf) σ σ' hJ h
theorem job_ovr {p : Pg} (hok : PgOk p) {S : List (List Tup)} (hp0 : PadS p S) {s rn k : Nat} (hk : k ∈ jobsOf p s) {σ : StQ} (hJ : JI p S s σ) (h : jobO p s rn σ k = none) : Ovr σ.1 S (fun q t => hP p k = q ∧ Em p S s rn k t) := by
  unfold jobO at h
  simp only [em_iff]
  by_cases hn : rn = 0
  · rw [if_pos hn] at h
    simp only [if_pos hn]
    exact fire_ovr hok hp0 hk hJ h
  · rw [if_neg hn] at h
    simp only [if_neg hn]
    exact fold_over (E := fun d q t => EmD p S k d q t) _ (fun d _ σ σ' hJ hf => fireD_ji hok hp0 hk hJ hf) (fun d _ σ hJ hf => fireD_ovr hok hp0 hk hJ hf) σ hJ h
/-- The new tuples of a round. -/
def NewT (p : Pg) (S : List (List Tup)) (s rn q : Nat) (t : Tup) : Prop := t ∉ rowsAt S (3 * q) ∧ ∃ k ∈ jobsOf p s, hP p k = q ∧ Em p S s rn k t
theorem jobs_new {p : Pg} (hok : PgOk p) {s rn : Nat} {σ σ' : StQ} (hN : NxE p σ.1) (hp : PadS p σ.1) (h : jobsO p s rn σ = some σ') : PadS p σ'.1 ∧ RdOk p s σ'.1 ∧ Ag σ.1 σ'.1 ∧ ∀ q t, q < p.P.length → (t ∈ rowsAt σ'.1 (3 * q + 2) ↔ NewT p σ.1 s rn q t) := by
  obtain ⟨h1, h2⟩ := fold_ji (E := fun k q t => hP p k = q ∧ Em p σ.1 s rn k t) _ (fun k hk σ1 σ2 hJ hf => job_ji hok hp hk hJ hf) σ σ' ⟨hN.rd s, hp, fun q => ⟨rfl, rfl⟩⟩ h
  refine ⟨h1.pad, h1.rd, h1.ag, fun q t hq => ?_⟩
  rw [h2, hN.2.2 q hq]
  exact ⟨fun h => h.elim (fun h => by cases h) id, .inr⟩
theorem jobs_over {p : Pg} (hok : PgOk p) {s rn : Nat} {σ : StQ} (hN : NxE p σ.1) (hp : PadS p σ.1) (h : jobsO p s rn σ = none) : ∃ q, q < p.P.length ∧ ∃ N : List Tup, N.Nodup ∧ 512 < (rowsAt σ.1 (3 * q)).length + N.length ∧ ∀ t ∈ N, NewT p σ.1 s rn q t := by
  obtain ⟨q, N, n1, n2, n3⟩ := fold_over (E := fun k q t => hP p k = q ∧ Em p σ.1 s rn k t) _ (fun k hk σ1 σ2 hJ hf => job_ji hok hp hk hJ hf) (fun k hk σ1 hJ hf => job_ovr hok hp hk hJ hf) σ ⟨hN.rd s, hp, fun q => ⟨rfl, rfl⟩⟩ h
  have hr := (hN.2.1.at (3 * q)).1
  have hq : q < p.P.length := Nat.lt_of_not_le fun hge => by
    have e1 : rowsAt σ.1 (3 * q) = [] := by
      unfold rowsAt
      rw [List.getD_eq_getElem?_getD, List.getElem?_eq_none (by rw [hN.1]; omega)]; rfl
    have e2 : rowsAt σ.1 (3 * q + 2) = [] := by
      unfold rowsAt
      rw [List.getD_eq_getElem?_getD, List.getElem?_eq_none (by rw [hN.1]; omega)]; rfl
    have hN0 : N ≠ [] := fun e => by rw [e, e1] at n2; simp at n2
    obtain ⟨t, ht⟩ := List.exists_mem_of_ne_nil N hN0
    rcases n3 t ht with h | ⟨_, k, hk, h, _⟩
    · rw [e2] at h; cases h
    · have := (jobs_head hok hk).2.1
      omega
  refine ⟨q, hq, N, n1, n2, fun t ht => ?_⟩
  rcases n3 t ht with h | h
  · rw [hN.2.2 q hq] at h; cases h
  · exact h
end Go.Proofs.Qxb6500788a
