import Derived.Test.Qxb6500788aJe
import Derived.StillTailTactics
import Derived.Deep.QuietTactic
import Derived.BigQuiet
import Derived.Deep.RegionHeld
import Derived.Deep.CutRange
import Derived.Laws.ResultCell
import Derived.Laws.Rows
import Derived.DeepKeys
import Derived.DataBytes
import Derived.Laws.StructEq
import Derived.Laws.AppendOwn
import Derived.Laws.MakeOwn
set_option linter.unusedSimpArgs false
set_option linter.unusedVariables false
namespace Go.Proofs.Qxb6500788a
open Go.RowKit Go.Blk
attribute [local go_sem ↓] execOp_load execOp_store execOp_alloc
attribute [local go_sem] Try.ld24 Try.st24 Try.ld25 Try.st25 Try.ld3 Try.st3 Try.ld30 Try.st30 Try.ld36 Try.st36 Try.ld4 Try.st4 Try.ld41 Try.st41 Try.ld50 Try.st50 Try.ld40 Try.st40 Try.ld42 Try.st42 Try.ld89 Try.st89 Try.ld91 Try.st91 Try.ld56 Try.st56 Try.ld97 Try.st97 Try.ld98 Try.st98 Try.ld101 Try.st101 Try.ld104 Try.st104 Try.ld57 Try.st57 Try.ld130 Try.st130 Try.ld2 Try.st2 Try.ld5 Try.st5 Try.ld9 Try.st9 Try.ld12 Try.st12 Try.ld21 Try.st21 Try.ld22 Try.st22 Try.ld29 Try.st29 Try.ld33 Try.st33 Try.ld59 Try.st59 Try.ld62 Try.st62 Try.ld69 Try.st69 Try.ld94 Try.st94 Try.ld96 Try.st96 Try.ld129 Try.st129 Try.ld158 Try.st158 Try.ld162 Try.st162 Try.ld47 Try.st47 Try.ld44 Try.st44 Try.ld137 Try.st137 Try.ld145 Try.st145 Try.ld43 Try.st43 Try.ld27 Try.st27 Try.ld38 Try.st38 Try.ld46 Try.st46 Try.ld49 Try.st49 Try.ld52 Try.st52 Try.ld54 Try.st54 Try.ld61 Try.st61 Try.ld80 Try.st80 Try.ld87 Try.st87 Try.ld93 Try.st93 Try.ld100 Try.st100 Try.ld103 Try.st103 Try.ld106 Try.st106 Try.ld109 Try.st109 Try.ld132 Try.st132 Try.ld147 Try.st147 Try.al47 Try.al44 Try.al137 Try.al145 Try.al43 Try.al27 Try.al38 Try.al46 Try.al49 Try.al52 Try.al54 Try.al61 Try.al80 Try.al87 Try.al93 Try.al100 Try.al103 Try.al106 Try.al109 Try.al132 Try.al147
attribute [local go_sem] GProgram.length_enc GProgram.ok_enc GProgram.all_get GProgram.all_set GProgram.preds_get GProgram.preds_set GProgram.rules_get GProgram.rules_set GProgram.strata_get GProgram.strata_set Answer.length_enc Answer.ok_enc Answer.all_get Answer.all_set Answer.code_get Answer.code_set Answer.n_get Answer.n_set Answer.rows_get Answer.rows_set Term.length_enc Term.ok_enc Term.all_get Term.all_set Term.var_get Term.var_set Term.n_get Term.n_set Atom.length_enc Atom.ok_enc Atom.all_get Atom.all_set Atom.pred_get Atom.pred_set Atom.args_get Atom.args_set GRule.length_enc GRule.ok_enc GRule.all_get GRule.all_set GRule.head_get GRule.head_set GRule.body_get GRule.body_set GRule.head_pred_get GRule.head_pred_set GRule.head_args_get GRule.head_args_set GOp.length_enc GOp.ok_enc GOp.all_get GOp.all_set GOp.kind_get GOp.kind_set GOp.pred_get GOp.pred_set GOp.t_get GOp.t_set GOp.n_get GOp.n_set GOp.base_get GOp.base_set GOp.rule_get GOp.rule_set GOp.rule_head_get GOp.rule_head_set GOp.rule_body_get GOp.rule_body_set GOp.rule_head_pred_get GOp.rule_head_pred_set GOp.rule_head_args_get GOp.rule_head_args_set PredInfo.length_enc PredInfo.ok_enc PredInfo.all_get PredInfo.all_set PredInfo.arity_get PredInfo.arity_set PredInfo.base_get PredInfo.base_set PredInfo.stratum_get PredInfo.stratum_set GStats.length_enc GStats.ok_enc GStats.all_get GStats.all_set GStats.rounds_get GStats.rounds_set GStats.fired_get GStats.fired_set GStats.emitted_get GStats.emitted_set GStats.fresh_get GStats.fresh_set Literal.length_enc Literal.ok_enc Literal.all_get Literal.all_set Literal.neg_get Literal.neg_set Literal.atom_get Literal.atom_set Literal.atom_pred_get Literal.atom_pred_set Literal.atom_args_get Literal.atom_args_set Engine.length_enc Engine.ok_enc Engine.all_get Engine.all_set Engine.prog_get Engine.prog_set Engine.st_get Engine.st_set Engine.levels_get Engine.levels_set Engine.running_get Engine.running_set Engine.stratum_get Engine.stratum_set Engine.round_get Engine.round_set Engine.saved_get Engine.saved_set Engine.stats_get Engine.stats_set Engine.prog_preds_get Engine.prog_preds_set Engine.prog_rules_get Engine.prog_rules_set Engine.prog_strata_get Engine.prog_strata_set Engine.stats_rounds_get Engine.stats_rounds_set Engine.stats_fired_get Engine.stats_fired_set Engine.stats_emitted_get Engine.stats_emitted_set Engine.stats_fresh_get Engine.stats_fresh_set Level.length_enc Level.ok_enc Level.all_get Level.all_set Level.heads_get Level.heads_set Level.jobs_get Level.jobs_set Plan.length_enc Plan.ok_enc Plan.all_get Plan.all_set Plan.rule_get Plan.rule_set Plan.delta_get Plan.delta_set Plan.src_get Plan.src_set Job.length_enc Job.ok_enc Job.all_get Job.all_set Job.full_get Job.full_set Job.deltas_get Job.deltas_set Job.full_rule_get Job.full_rule_set Job.full_delta_get Job.full_delta_set Job.full_src_get Job.full_src_set GState.length_enc GState.ok_enc GState.all_get GState.all_set GState.prog_get GState.prog_set GState.base_get GState.base_set GState.shown_get GState.shown_set GState.prog_preds_get GState.prog_preds_set GState.prog_rules_get GState.prog_rules_set GState.prog_strata_get GState.prog_strata_set Store.length_enc Store.ok_enc Store.all_get Store.all_set Store.arity_get Store.arity_set Store.rows_get Store.rows_set Env.length_enc Env.ok_enc Env.all_get Env.all_set Env.val_get Env.val_set Env.set_get Env.set_set
attribute [local go_sem] size_put size_ext blk_put free_put blk_alloc free_alloc blk_drew free_drew blk_ext free_ext lookOr_some putOr_some segAt_some cellAt_some storeIn_some put_put put_alloc_new length_arr ok_arr_u8 ok_arr_u32 ok_arr_u64 ok_arr_i64 ok_arr_sl cellsV_agg cellsV_int cellsV_bool cellsV_string cellsV_pointer cellsV_slice cellsV_sl ok_int ok_bool ok_string ok_pointer ok_slice ok_sl toList_arr seg_arr set_arr nth_splice nth_splice0 seg_splice seg_splice0 splice_splice splice_splice0 length_splice_if
attribute [local go_sem ↓] execOp_box
attribute [local go_sem] box_run nth_arr_u8 put_arr_u8 blk_drewN free_drewN put_drewN blk_raw free_raw
/-- Digits, the low one first. -/
def rk (D : Nat) : List Nat → Nat
  | [] => 0
  | d :: ds => d + D * rk D ds
def Dig (D v : Nat) (ds : List Nat) : Prop := ds.length = v ∧ ∀ d ∈ ds, d < D
theorem rk_inj {D : Nat} : ∀ {ds es : List Nat}, ds.length = es.length → (∀ d ∈ ds, d < D) → (∀ d ∈ es, d < D) → rk D ds = rk D es → ds = es
  | [], [], _, _, _, _ => rfl
  | [], _ :: _, h, _, _, _ => by cases h
  | _ :: _, [], h, _, _, _ => by cases h
  | d :: ds, e :: es, h, hd, he, hr => by
    have d1 := hd d (List.mem_cons_self ..)
    have e1 := he e (List.mem_cons_self ..)
    have hr' : d + D * rk D ds = e + D * rk D es := hr
    have h1 : d = e := by
      have := congrArg (· % D) hr'
      simp only [Nat.add_mul_mod_self_left] at this
      rwa [Nat.mod_eq_of_lt d1, Nat.mod_eq_of_lt e1] at this
    subst h1
    have h2 : D * rk D ds = D * rk D es := by omega
    have hD : 0 < D := by omega
    rw [rk_inj (by simpa using h) (fun x hx => hd x (List.mem_cons_of_mem _ hx)) (fun x hx => he x (List.mem_cons_of_mem _ hx)) (Nat.eq_of_mul_eq_mul_left hD h2)]
theorem rk_lt {D : Nat} : ∀ {ds : List Nat}, (∀ d ∈ ds, d < D) → rk D ds < D ^ ds.length
  | [], _ => by simp [rk]
  | d :: ds, hd => by
    have d1 := hd d (List.mem_cons_self ..)
    have ih := rk_lt (ds := ds) (fun x hx => hd x (List.mem_cons_of_mem _ hx))
    show d + D * rk D ds < D ^ (ds.length + 1)
    rw [Nat.pow_succ, Nat.mul_comm (D ^ _)]
    have := Nat.mul_le_mul_left D (show rk D ds + 1 ≤ D ^ ds.length from ih)
    rw [Nat.mul_add, Nat.mul_one] at this
    omega
theorem rk_max {D : Nat} (hD : 0 < D) : ∀ v, rk D (List.replicate v (D - 1)) + 1 = D ^ v
  | 0 => rfl
  | v + 1 => by
    have ih := rk_max hD v
    rw [List.replicate_succ]
    show D - 1 + D * rk D (List.replicate v (D - 1)) + 1 = D ^ (v + 1)
    rw [Nat.pow_succ, Nat.mul_comm (D ^ _), ← ih, Nat.mul_add, Nat.mul_one]
    omega
theorem rk_inc {D : Nat} (hD : 0 < D) (d : Nat) (R : List Nat) : ∀ i, rk D (List.replicate i 0 ++ (d + 1) :: R) = rk D (List.replicate i (D - 1) ++ d :: R) + 1
  | 0 => by show d + 1 + _ = d + _ + 1; omega
  | i + 1 => by
    have ih := rk_inc hD d R i
    rw [List.replicate_succ, List.replicate_succ]
    show 0 + D * rk D (List.replicate i 0 ++ (d + 1) :: R) = D - 1 + D * rk D (List.replicate i (D - 1) ++ d :: R) + 1
    rw [ih, Nat.mul_add, Nat.mul_one]
    omega
theorem rep_take {D : Nat} : ∀ {ds : List Nat} {i : Nat}, i ≤ ds.length → (∀ j, j < i → ds[j]? = some (D - 1)) → ds.take i = List.replicate i (D - 1)
  | ds, 0, _, _ => by simp
  | ds, i + 1, hi, h => by
    rw [take_at (h i (by omega)), rep_take (ds := ds) (i := i) (by omega) (fun j hj => h j (by omega)), List.replicate_succ']
/-- The digits while the carry runs. -/
def carD (ds : List Nat) (i : Nat) : List Nat := List.replicate i 0 ++ ds.drop i
theorem carD_len {ds : List Nat} {i : Nat} (hi : i ≤ ds.length) : (carD ds i).length = ds.length := by
  unfold carD
  rw [List.length_append, List.length_replicate, List.length_drop]; omega
theorem carD_at {ds : List Nat} {i : Nat} {d : Nat} (hd : ds[i]? = some d) : (carD ds i)[i]? = some d := by
  unfold carD
  rw [List.getElem?_append_right (by rw [List.length_replicate]; exact Nat.le_refl _), List.length_replicate, Nat.sub_self, List.getElem?_drop, Nat.add_zero, hd]
theorem carD_set {ds : List Nat} {i : Nat} {d : Nat} (hd : ds[i]? = some d) (x : Nat) : (carD ds i).set i x = List.replicate i 0 ++ x :: ds.drop (i + 1) := by
  have e : ds.drop i = d :: ds.drop (i + 1) := by
    obtain ⟨h, he⟩ := List.getElem?_eq_some_iff.1 hd
    rw [List.drop_eq_getElem_cons h, he]
  unfold carD
  rw [e, List.set_append_right _ _ (by rw [List.length_replicate]; exact Nat.le_refl _), List.length_replicate, Nat.sub_self, List.set_cons_zero]
theorem carD_succ {ds : List Nat} {i : Nat} {d : Nat} (hd : ds[i]? = some d) : (carD ds i).set i 0 = carD ds (i + 1) := by
  rw [carD_set hd]
  unfold carD
  rw [List.replicate_succ', List.append_assoc]; rfl
theorem inc_dig {D v : Nat} {ds : List Nat} (h : Dig D v ds) {i d : Nat} (hd : ds[i]? = some d) (hne : ¬ d = D - 1) (hall : ∀ j, j < i → ds[j]? = some (D - 1)) : Dig D v ((carD ds i).set i (d + 1)) ∧ rk D ((carD ds i).set i (d + 1)) = rk D ds + 1 := by
  obtain ⟨hi, he⟩ := List.getElem?_eq_some_iff.1 hd
  have hdD : d < D := h.2 d (List.mem_of_getElem? hd)
  have hD : 0 < D := by omega
  constructor
  · refine ⟨by rw [List.length_set, carD_len (by omega)]; exact h.1, fun x hx => ?_⟩
    rw [carD_set hd] at hx
    rcases List.mem_append.1 hx with h1 | h1
    · rw [List.eq_of_mem_replicate h1]; exact hD
    · rcases List.mem_cons.1 h1 with rfl | h2
      · omega
      · exact h.2 x (List.mem_of_mem_drop h2)
  · rw [carD_set hd, rk_inc hD]
    congr 1
    congr 1
    have e : ds.drop i = d :: ds.drop (i + 1) := by rw [List.drop_eq_getElem_cons hi, he]
    rw [← rep_take (by omega) hall, ← e, List.take_append_drop]
theorem end_dig {D v : Nat} {ds es : List Nat} (h : Dig D v ds) (hall : ∀ j, j < v → ds[j]? = some (D - 1)) (he : Dig D v es) (hv : v = 0 ∨ 0 < D) : rk D es ≤ rk D ds := by
  have e : ds = List.replicate v (D - 1) := by
    have := rep_take (ds := ds) (i := v) (by rw [h.1]; exact Nat.le_refl _) hall
    rwa [List.take_of_length_le (by rw [h.1]; exact Nat.le_refl _)] at this
  rcases hv with rfl | hD
  · have : es = [] := List.length_eq_zero_iff.1 he.1
    rw [this]; exact Nat.zero_le _
  · have h1 := rk_max hD v
    have h2 := rk_lt he.2
    rw [he.1] at h2
    rw [e]; omega
def setV (v : Vector Int 32) (n : Nat) (x : Int) : Vector Int 32 := if h : n < 32 then v.set n x h else v
theorem vS_setV (v : Vector Int 32) {n : Nat} (h : n < 32) (x : Int) (m : Nat) : vS (setV v n x) m = if m = n then x else vS v m := by
  unfold setV
  rw [dif_pos h]
  unfold vS
  simp only [List.getD_eq_getElem?_getD, Vector.toList_set, List.getElem?_set]
  by_cases hij : n = m
  · subst hij; simp [h]
  · rw [if_neg hij, if_neg (fun e => hij e.symm)]
theorem setV_put (v : Vector Int 32) {n : Nat} (h : n < 32) (x : Int) : splice (arr i64v v) n [.int .i64 x] = arr i64v (setV v n x) := by
  unfold setV
  rw [dif_pos h, put_arr_i64 _ _ h]
/-- The values that the digits stand for. -/
def valV (vars dom : List Int) (ds : List Nat) : Nat → Vector Int 32
  | 0 => Vector.replicate 32 0
  | i + 1 => setV (valV vars dom ds i) (vars.getD i 0).toNat (dom.getD (ds.getD i 0) 0)
theorem getD_at {α : Type} {L : List α} {i : Nat} {x d : α} (h : L[i]? = some x) : L.getD i d = x := by rw [List.getD_eq_getElem?_getD, h]; rfl
theorem valV_at {vars dom : List Int} {ds : List Nat} (hv : VarI vars) : ∀ i, i ≤ vars.length → ∀ j x, j < i → vars[j]? = some x → vS (valV vars dom ds i) x.toNat = dom.getD (ds.getD j 0) 0
  | 0, _, j, x, hj, _ => absurd hj (Nat.not_lt_zero _)
  | i + 1, hi, j, x, hj, hx => by
    obtain ⟨y, hy⟩ : ∃ y, vars[i]? = some y := ⟨_, List.getElem?_eq_getElem (by omega)⟩
    have hyr := hv.2 y (List.mem_of_getElem? hy)
    have hxr := hv.2 x (List.mem_of_getElem? hx)
    show vS (setV _ (vars.getD i 0).toNat _) _ = _
    rw [getD_at hy, vS_setV _ (by omega)]
    by_cases hji : j = i
    · subst hji
      obtain rfl : x = y := Option.some.inj (hx.symm.trans hy)
      rw [if_pos rfl]
    · have hne : x ≠ y := by
        intro e
        subst e
        exact hji ((List.getElem?_inj (List.getElem?_eq_some_iff.1 hx).1 hv.1).1 (hx.trans hy.symm))
      rw [if_neg (by omega)]
      exact valV_at hv i (by omega) j x (by omega) hx
theorem vS_zero (n : Nat) : vS (Vector.replicate 32 0) n = 0 := by
  unfold vS
  rw [List.getD_eq_getElem?_getD, Vector.toList_replicate, List.getElem?_replicate]
  by_cases h : n < 32
  · rw [if_pos h]; rfl
  · rw [if_neg h]; rfl
theorem valV_ok {vars dom : List Int} {ds : List Nat} (hv : VarI vars) (hd : DomI dom) : ∀ i, i ≤ vars.length → ∀ n, 0 ≤ vS (valV vars dom ds i) n ∧ vS (valV vars dom ds i) n < 256
  | 0, _, n => by rw [show valV vars dom ds 0 = Vector.replicate 32 0 from rfl, vS_zero]; omega
  | i + 1, hi, n => by
    obtain ⟨y, hy⟩ : ∃ y, vars[i]? = some y := ⟨_, List.getElem?_eq_getElem (by omega)⟩
    have hyr := hv.2 y (List.mem_of_getElem? hy)
    show 0 ≤ vS (setV _ (vars.getD i 0).toNat _) _ ∧ vS (setV _ (vars.getD i 0).toNat _) _ < 256
    rw [getD_at hy, vS_setV _ (by omega)]
    by_cases h : n = y.toNat
    · rw [if_pos h]
      cases hz : dom[ds.getD i 0]? with
      | none => rw [List.getD_eq_getElem?_getD, hz]; exact ⟨by decide, by decide⟩
      | some z => rw [getD_at hz]; exact hd.2 z (List.mem_of_getElem? hz)
    · rw [if_neg h]; exact valV_ok hv hd i (by omega) n
/-- The variables of a rule. -/
structure VarsOf (p : Pg) (k : Nat) (vars : List Int) : Prop where
  var : VarI vars
  hd : ∀ c, c < arA p.P (hdP p k) → (tA (hdP p k) c).var = true → (tA (hdP p k) c).n ∈ vars
  bd : ∀ l ∈ p.L k, ∀ c, c < arA p.P l.atom → (tA l.atom c).var = true → (tA l.atom c).n ∈ vars
  of : ∀ y ∈ vars, (∃ c, c < arA p.P (hdP p k) ∧ (tA (hdP p k) c).var = true ∧ (tA (hdP p k) c).n = y) ∨ ∃ l ∈ p.L k, ∃ c, c < arA p.P l.atom ∧ (tA l.atom c).var = true ∧ (tA l.atom c).n = y
def DomC (p : Pg) (dom : List Int) (T : Nat → List Tup) : Prop := ∀ q, q < p.P.length → ∀ t ∈ T q, ∀ c, c < arP p q → tg t c ∈ dom
abbrev relF (T : Nat → List Tup) : Nat → Tup → Prop := fun q t => t ∈ T q
theorem con_body {p : Pg} {k : Nat} {T : Nat → List Tup} {t : Tup} : Con p k (relF T) t ↔ ∃ σ, BodyH p k σ T ∧ t = sT (hdP p k) σ (arA p.P (hdP p k)) := Iff.rfl
theorem arA_arP (p : Pg) (a : Atom) : arA p.P a = arP p a.pred.toNat := rfl
theorem pos_dom {p : Pg} (hok : PgOk p) {k : Nat} {r : GRule} (hr : p.R[k]? = some r) {dom : List Int} {T : Nat → List Tup} (hD : DomC p dom T) {σ : Nat → Int} (hB : BodyH p k σ T) {l : Literal} (hl : l ∈ p.L k) (hn : l.neg = false) {c : Nat} (hc : c < arA p.P l.atom) (hv : (tA l.atom c).var = true) : σ (tA l.atom c).n.toNat ∈ dom := by
  obtain ⟨i, hi⟩ := List.mem_iff_getElem?.1 hl
  have hm := (hB i l hi).2 hn
  have hq := lit_q hok hr hl
  have h4 := (afit_fit (hok.lits k r hr l hl)).1
  have := hD _ hq _ hm c (by rw [← arA_arP]; exact hc)
  rw [tg_sT _ _ _ _ (by omega), if_pos hc] at this
  unfold sV at this
  rwa [if_pos hv] at this
/-- Every value of a rule's variables lies in the domain. -/
theorem var_dom {p : Pg} (hok : PgOk p) {k : Nat} {r : GRule} (hr : p.R[k]? = some r) {dom vars : List Int} {T : Nat → List Tup} (hD : DomC p dom T) (hV : VarsOf p k vars) {σ : Nat → Int} (hB : BodyH p k σ T) : ∀ y ∈ vars, σ y.toNat ∈ dom := by
  have key : ∀ a, Restr p.P (p.L k) a → ∀ c, c < arA p.P a → (tA a c).var = true → σ (tA a c).n.toNat ∈ dom := fun a hR c hc hv => by
    obtain ⟨l, hl, hn, i, hi, hiv, hin⟩ := hR c hc hv
    rw [← hin]
    exact pos_dom hok hr hD hB hl hn hi hiv
  intro y hy
  rcases hV.of y hy with ⟨c, hc, hv, rfl⟩ | ⟨l, hl, c, hc, hv, rfl⟩
  · rw [hdP_some hr] at hc hv ⊢
    exact key _ (hok.rsH k r hr) c hc hv
  · cases hn : l.neg with
    | false => exact pos_dom hok hr hD hB hl hn hc hv
    | true => exact key _ (hok.rsN k r hr l hl hn) c hc hv
theorem sT_vars {p : Pg} {a : Atom} (hf : AFit p.P a) {vars : List Int} {σ τ : Nat → Int} (hv : ∀ c, c < arA p.P a → (tA a c).var = true → (tA a c).n ∈ vars) (h : ∀ y ∈ vars, σ y.toNat = τ y.toNat) : sT a σ (arA p.P a) = sT a τ (arA p.P a) :=
  sT_congr (afit_fit hf).1 (fun i hi hvi => h _ (hv i hi hvi))
/-- What the digits are to cover. -/
theorem con_digits {p : Pg} (hok : PgOk p) {k : Nat} {r : GRule} (hr : p.R[k]? = some r) {dom vars : List Int} {T : Nat → List Tup} (hD : DomC p dom T) (hV : VarsOf p k vars) {t : Tup} (hc : Con p k (relF T) t) : ∃ ds, Dig dom.length vars.length ds ∧ BodyH p k (vS (valV vars dom ds vars.length)) T ∧ t = sT (hdP p k) (vS (valV vars dom ds vars.length)) (arA p.P (hdP p k)) := by
  obtain ⟨σ, hB, ht⟩ := con_body.1 hc
  have hvd := var_dom hok hr hD hV hB
  refine ⟨vars.map (fun y => dom.idxOf (σ y.toNat)), ⟨by simp, fun d hd => ?_⟩, ?_⟩
  · obtain ⟨y, hy, rfl⟩ := List.mem_map.1 hd
    exact List.idxOf_lt_length_of_mem (hvd y hy)
  · have hag : ∀ y ∈ vars, vS (valV vars dom (vars.map (fun y => dom.idxOf (σ y.toNat))) vars.length) y.toNat = σ y.toNat := fun y hy => by
      obtain ⟨j, hj⟩ := List.mem_iff_getElem?.1 hy
      rw [valV_at hV.var _ (Nat.le_refl _) j y (List.getElem?_eq_some_iff.1 hj).1 hj]
      have e : (vars.map (fun y => dom.idxOf (σ y.toNat)))[j]? = some (dom.idxOf (σ y.toNat)) := by rw [List.getElem?_map, hj]; rfl
      rw [getD_at e]
      have hl := List.idxOf_lt_length_of_mem (hvd y hy)
      have e2 : dom[dom.idxOf (σ y.toNat)]? = some (σ y.toNat) := by
        rw [List.getElem?_eq_getElem hl, List.getElem_idxOf]
      exact getD_at e2
    refine ⟨fun i l hl => ?_, ?_⟩
    · have hm := List.mem_of_getElem? hl
      rw [sT_vars (hok.lits k r hr l hm) (hV.bd l hm) hag]
      exact hB i l hl
    · rw [ht]
      have hf : AFit p.P (hdP p k) := by rw [hdP_some hr]; exact hok.head k r hr
      exact (sT_vars hf hV.hd hag).symm
theorem head_tok {p : Pg} (hok : PgOk p) {k : Nat} {r : GRule} (hr : p.R[k]? = some r) {σ : Nat → Int} (hσ : ∀ n, 0 ≤ σ n ∧ σ n < 256) : TOk (sT (hdP p k) σ (arA p.P (hdP p k))) := by
  have hf : AFit p.P (hdP p k) := by rw [hdP_some hr]; exact hok.head k r hr
  obtain ⟨h4, hfit⟩ := afit_fit hf
  intro c hc
  rw [tg_sT _ _ _ _ hc]
  by_cases h : c < arA p.P (hdP p k)
  · rw [if_pos h]
    obtain ⟨r0, r1, r2⟩ := hfit c h
    unfold sV
    by_cases hv : (tA (hdP p k) c).var = true
    · rw [if_pos hv]; exact hσ _
    · rw [if_neg hv]; exact ⟨r0, r2 (by simpa using hv)⟩
  · rw [if_neg h]; exact ⟨by decide, by decide⟩
/-- No more than 2^32 tuples. -/
def tCode (t : Tup) : Nat := (((tg t 0).toNat * 256 + (tg t 1).toNat) * 256 + (tg t 2).toNat) * 256 + (tg t 3).toNat
theorem tCode_lt {t : Tup} (h : TOk t) : tCode t < 4294967296 := by
  have h0 := h 0 (by omega)
  have h1 := h 1 (by omega)
  have h2 := h 2 (by omega)
  have h3 := h 3 (by omega)
  unfold tCode
  omega
theorem tCode_inj {t u : Tup} (ht : TOk t) (hu : TOk u) (h : tCode t = tCode u) : t = u := by
  have t0 := ht 0 (by omega)
  have t1 := ht 1 (by omega)
  have t2 := ht 2 (by omega)
  have t3 := ht 3 (by omega)
  have u0 := hu 0 (by omega)
  have u1 := hu 1 (by omega)
  have u2 := hu 2 (by omega)
  have u3 := hu 3 (by omega)
  unfold tCode at h
  apply tg_ext
  intro i hi
  have : i = 0 ∨ i = 1 ∨ i = 2 ∨ i = 3 := by omega
  rcases this with rfl | rfl | rfl | rfl <;> omega
theorem nodup_nat {N : Nat} {L : List Nat} (hN : L.Nodup) (h : ∀ y ∈ L, y < N) : L.length ≤ N := by
  have h1 : (L.map (fun n : Nat => (n : Int))).Nodup := by
    rw [List.nodup_iff_pairwise_ne, List.pairwise_map]
    exact hN.imp (fun h e => h (by omega))
  have := nodup_int (N := N) h1 (fun y hy => by
    obtain ⟨n, hn, rfl⟩ := List.mem_map.1 hy
    have := h n hn
    omega)
  simpa using this
theorem outok_len {L : List Tup} (h : OutOk L) : L.length ≤ 4294967296 := by
  have h1 : (L.map tCode).Nodup := by
    rw [List.nodup_iff_pairwise_ne, List.pairwise_map]
    refine List.Pairwise.imp_of_mem ?_ (List.nodup_iff_pairwise_ne.1 h.1)
    intro a b ha hb hne e
    exact hne (tCode_inj (h.2 a ha) (h.2 b hb) e)
  have := nodup_nat (N := 4294967296) h1 (fun y hy => by
    obtain ⟨t, ht, rfl⟩ := List.mem_map.1 hy
    exact tCode_lt (h.2 t ht))
  simpa using this
end Go.Proofs.Qxb6500788a
