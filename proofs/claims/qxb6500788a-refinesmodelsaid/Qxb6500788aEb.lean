import Derived.Test.Qxb6500788aEa
import Derived.Test.Qxb6500788aPa
import Derived.StillTailTactics
import Derived.Deep.QuietTactic
import Derived.BigQuiet
import Derived.Deep.RegionHeld
import Derived.Deep.CutRange
import Derived.Laws.ResultCell
import Derived.Laws.Rows
import Derived.DeepKeys
import Derived.DataBytes
import Derived.Laws.StructEq
import Derived.Laws.AppendOwn
import Derived.Laws.MakeOwn
set_option linter.unusedSimpArgs false
set_option linter.unusedVariables false
namespace Go.Proofs.Qxb6500788a
open Go.RowKit Go.Blk
attribute [local go_sem ↓] execOp_load execOp_store execOp_alloc
attribute [local go_sem] Try.ld24 Try.st24 Try.ld25 Try.st25 Try.ld3 Try.st3 Try.ld30 Try.st30 Try.ld36 Try.st36 Try.ld4 Try.st4 Try.ld41 Try.st41 Try.ld50 Try.st50 Try.ld40 Try.st40 Try.ld42 Try.st42 Try.ld89 Try.st89 Try.ld91 Try.st91 Try.ld56 Try.st56 Try.ld97 Try.st97 Try.ld98 Try.st98 Try.ld101 Try.st101 Try.ld104 Try.st104 Try.ld57 Try.st57 Try.ld130 Try.st130 Try.ld2 Try.st2 Try.ld5 Try.st5 Try.ld9 Try.st9 Try.ld12 Try.st12 Try.ld21 Try.st21 Try.ld22 Try.st22 Try.ld29 Try.st29 Try.ld33 Try.st33 Try.ld59 Try.st59 Try.ld62 Try.st62 Try.ld69 Try.st69 Try.ld94 Try.st94 Try.ld96 Try.st96 Try.ld129 Try.st129 Try.ld158 Try.st158 Try.ld162 Try.st162 Try.ld47 Try.st47 Try.ld44 Try.st44 Try.ld137 Try.st137 Try.ld145 Try.st145 Try.ld43 Try.st43 Try.ld27 Try.st27 Try.ld38 Try.st38 Try.ld46 Try.st46 Try.ld49 Try.st49 Try.ld52 Try.st52 Try.ld54 Try.st54 Try.ld61 Try.st61 Try.ld80 Try.st80 Try.ld87 Try.st87 Try.ld93 Try.st93 Try.ld100 Try.st100 Try.ld103 Try.st103 Try.ld106 Try.st106 Try.ld109 Try.st109 Try.ld132 Try.st132 Try.ld147 Try.st147 Try.al47 Try.al44 Try.al137 Try.al145 Try.al43 Try.al27 Try.al38 Try.al46 Try.al49 Try.al52 Try.al54 Try.al61 Try.al80 Try.al87 Try.al93 Try.al100 Try.al103 Try.al106 Try.al109 Try.al132 Try.al147
attribute [local go_sem] GProgram.length_enc GProgram.ok_enc GProgram.all_get GProgram.all_set GProgram.preds_get GProgram.preds_set GProgram.rules_get GProgram.rules_set GProgram.strata_get GProgram.strata_set Answer.length_enc Answer.ok_enc Answer.all_get Answer.all_set Answer.code_get Answer.code_set Answer.n_get Answer.n_set Answer.rows_get Answer.rows_set Term.length_enc Term.ok_enc Term.all_get Term.all_set Term.var_get Term.var_set Term.n_get Term.n_set Atom.length_enc Atom.ok_enc Atom.all_get Atom.all_set Atom.pred_get Atom.pred_set Atom.args_get Atom.args_set GRule.length_enc GRule.ok_enc GRule.all_get GRule.all_set GRule.head_get GRule.head_set GRule.body_get GRule.body_set GRule.head_pred_get GRule.head_pred_set GRule.head_args_get GRule.head_args_set GOp.length_enc GOp.ok_enc GOp.all_get GOp.all_set GOp.kind_get GOp.kind_set GOp.pred_get GOp.pred_set GOp.t_get GOp.t_set GOp.n_get GOp.n_set GOp.base_get GOp.base_set GOp.rule_get GOp.rule_set GOp.rule_head_get GOp.rule_head_set GOp.rule_body_get GOp.rule_body_set GOp.rule_head_pred_get GOp.rule_head_pred_set GOp.rule_head_args_get GOp.rule_head_args_set PredInfo.length_enc PredInfo.ok_enc PredInfo.all_get PredInfo.all_set PredInfo.arity_get PredInfo.arity_set PredInfo.base_get PredInfo.base_set PredInfo.stratum_get PredInfo.stratum_set GStats.length_enc GStats.ok_enc GStats.all_get GStats.all_set GStats.rounds_get GStats.rounds_set GStats.fired_get GStats.fired_set GStats.emitted_get GStats.emitted_set GStats.fresh_get GStats.fresh_set Literal.length_enc Literal.ok_enc Literal.all_get Literal.all_set Literal.neg_get Literal.neg_set Literal.atom_get Literal.atom_set Literal.atom_pred_get Literal.atom_pred_set Literal.atom_args_get Literal.atom_args_set Engine.length_enc Engine.ok_enc Engine.all_get Engine.all_set Engine.prog_get Engine.prog_set Engine.st_get Engine.st_set Engine.levels_get Engine.levels_set Engine.running_get Engine.running_set Engine.stratum_get Engine.stratum_set Engine.round_get Engine.round_set Engine.saved_get Engine.saved_set Engine.stats_get Engine.stats_set Engine.prog_preds_get Engine.prog_preds_set Engine.prog_rules_get Engine.prog_rules_set Engine.prog_strata_get Engine.prog_strata_set Engine.stats_rounds_get Engine.stats_rounds_set Engine.stats_fired_get Engine.stats_fired_set Engine.stats_emitted_get Engine.stats_emitted_set Engine.stats_fresh_get Engine.stats_fresh_set Level.length_enc Level.ok_enc Level.all_get Level.all_set Level.heads_get Level.heads_set Level.jobs_get Level.jobs_set Plan.length_enc Plan.ok_enc Plan.all_get Plan.all_set Plan.rule_get Plan.rule_set Plan.delta_get Plan.delta_set Plan.src_get Plan.src_set Job.length_enc Job.ok_enc Job.all_get Job.all_set Job.full_get Job.full_set Job.deltas_get Job.deltas_set Job.full_rule_get Job.full_rule_set Job.full_delta_get Job.full_delta_set Job.full_src_get Job.full_src_set GState.length_enc GState.ok_enc GState.all_get GState.all_set GState.prog_get GState.prog_set GState.base_get GState.base_set GState.shown_get GState.shown_set GState.prog_preds_get GState.prog_preds_set GState.prog_rules_get GState.prog_rules_set GState.prog_strata_get GState.prog_strata_set Store.length_enc Store.ok_enc Store.all_get Store.all_set Store.arity_get Store.arity_set Store.rows_get Store.rows_set Env.length_enc Env.ok_enc Env.all_get Env.all_set Env.val_get Env.val_set Env.set_get Env.set_set
attribute [local go_sem] size_put size_ext blk_put free_put blk_alloc free_alloc blk_drew free_drew blk_ext free_ext lookOr_some putOr_some segAt_some cellAt_some storeIn_some put_put put_alloc_new length_arr ok_arr_u8 ok_arr_u32 ok_arr_u64 ok_arr_i64 ok_arr_sl cellsV_agg cellsV_int cellsV_bool cellsV_string cellsV_pointer cellsV_slice cellsV_sl ok_int ok_bool ok_string ok_pointer ok_slice ok_sl toList_arr seg_arr set_arr nth_splice nth_splice0 seg_splice seg_splice0 splice_splice splice_splice0 length_splice_if
attribute [local go_sem ↓] execOp_box
attribute [local go_sem] box_run nth_arr_u8 put_arr_u8 blk_drewN free_drewN put_drewN blk_raw free_raw
/-- A program that the verifier lets through. -/
structure PgOk (p : Pg) : Prop where
  nP : p.P.length ≤ 64
  nR : p.R.length ≤ 128
  s1 : 1 ≤ p.St
  s2 : p.St ≤ 65
  ar : ∀ x ∈ p.P, 0 ≤ x.arity ∧ x.arity ≤ 4
  str : ∀ x ∈ p.P, 0 ≤ x.stratum ∧ x.stratum < (p.St : Int)
  b8 : ∀ (k : Nat) (r : GRule), p.R[k]? = some r → (p.L k).length ≤ 8
  lits : ∀ (k : Nat) (r : GRule), p.R[k]? = some r → ∀ l ∈ p.L k, AFit p.P l.atom
  head : ∀ (k : Nat) (r : GRule), p.R[k]? = some r → AFit p.P r.head
  der : ∀ (k : Nat) (r : GRule), p.R[k]? = some r → basP p r.head.pred.toNat = false
  rsH : ∀ (k : Nat) (r : GRule), p.R[k]? = some r → Restr p.P (p.L k) r.head
  rsN : ∀ (k : Nat) (r : GRule), p.R[k]? = some r → ∀ l ∈ p.L k, l.neg = true → Restr p.P (p.L k) l.atom
  lay : ∀ (k : Nat) (r : GRule), p.R[k]? = some r → ∀ l ∈ p.L k, strP p l.atom.pred.toNat ≤ strP p r.head.pred.toNat ∧ (l.neg = true → strP p l.atom.pred.toNat < strP p r.head.pred.toNat)
/-- The tuples of out that are new, behind N. -/
def newL (F N out : List Tup) : List Tup := out.foldl (fun N t => if t ∈ F then N else addT N t) N
theorem newL_snoc (F N out : List Tup) (t : Tup) : newL F N (out ++ [t]) = if t ∈ F then newL F N out else addT (newL F N out) t := by
  unfold newL
  rw [List.foldl_append]; rfl
theorem newL_mono (F : List Tup) : ∀ (out N : List Tup), N.length ≤ (newL F N out).length
  | [], N => Nat.le_refl _
  | t :: out, N => by
    show N.length ≤ (newL F (if t ∈ F then N else addT N t) out).length
    refine Nat.le_trans ?_ (newL_mono F out _)
    by_cases h : t ∈ F
    · rw [if_pos h]; exact Nat.le_refl _
    · rw [if_neg h]
      unfold addT
      by_cases h2 : t ∈ N
      · rw [if_pos h2]; exact Nat.le_refl _
      · rw [if_neg h2, List.length_append]; omega
theorem newL_append (F N a b : List Tup) : newL F N (a ++ b) = newL F (newL F N a) b := by
  unfold newL
  rw [List.foldl_append]
theorem newL_take (F N out : List Tup) (i : Nat) : (newL F N (out.take i)).length ≤ (newL F N out).length := by
  have := newL_mono F (out.drop i) (newL F N (out.take i))
  rw [← newL_append, List.take_append_drop] at this
  exact this
/-- A counter raised n times. -/
def frN (q : Int) : Nat → Int
  | 0 => q
  | n + 1 => wrap64 (frN q n + 1)
theorem eng_cells {x : Engine} {X : List Value} (h : X = x.enc) : X.length = 13 ∧ nth X 0 = some (.slice x.prog.preds.a x.prog.preds.len x.prog.preds.cap) ∧ nth X 1 = some (.slice x.prog.rules.a x.prog.rules.len x.prog.rules.cap) ∧ nth X 2 = some (.int .i64 x.prog.strata) ∧ nth X 3 = some (.pointer x.st) ∧ nth X 4 = some (.slice x.levels.a x.levels.len x.levels.cap) ∧ nth X 5 = some (.bool x.running) ∧ nth X 6 = some (.int .i64 x.stratum) ∧ nth X 7 = some (.int .i64 x.round) ∧ nth X 8 = some (.slice x.saved.a x.saved.len x.saved.cap) ∧ nth X 9 = some (.int .i64 x.stats.rounds) ∧ nth X 10 = some (.int .i64 x.stats.fired) ∧ nth X 11 = some (.int .i64 x.stats.emitted) ∧ nth X 12 = some (.int .i64 x.stats.fresh) := by
  subst h
  exact ⟨Engine.length_enc x, Engine.prog_preds_get x, Engine.prog_rules_get x, Engine.prog_strata_get x, Engine.st_get x, Engine.levels_get x, Engine.running_get x, Engine.stratum_get x, Engine.round_get x, Engine.saved_get x, Engine.stats_rounds_get x, Engine.stats_fired_get x, Engine.stats_emitted_get x, Engine.stats_fresh_get x⟩
theorem eat_bst {B : Nat} {O : Own} {W : World} {g be : Nat} {p : Pg} {x : Engine} {S sav : List (List Tup)} {bst : Nat} (h : EAt B O W g be p x S sav) (hx : x.st = some ⟨bst, 0, none⟩) : blk W be = some x.enc ∧ free W be = true ∧ SAt B O W g bst S ∧ O be = .a (g + 1) 0 ∧ ∀ S' O' W', Fr (isG g) O W O' W' → SAt B O' W' g bst S' → EAt B O' W' g be p x S' sav := by
  obtain ⟨b', h1, h2, h3, h4, h5, h6⟩ := eat_st h
  rw [hx] at h3
  injection h3 with h3
  injection h3 with h3
  subst h3
  exact ⟨h1, h2, h4, h5, h6⟩
theorem eat_prg {B : Nat} {O : Own} {W : World} {g be : Nat} {p : Pg} {x : Engine} {S sav : List (List Tup)} (h : EAt B O W g be p x S sav) : PrgC (core O W) x.prog p ∧ LevC (core O W) x.levels p := by
  obtain ⟨b', D, h⟩ := h
  exact ⟨h.prg, h.lev⟩
/-- The environment of the machine. -/
theorem eat_menv {B : Nat} {O : Own} {W : World} {g be : Nat} {p : Pg} {x : Engine} {S sav : List (List Tup)} {bst : Nat} (h : EAt B O W g be p x S sav) (hx : x.st = some ⟨bst, 0, none⟩) (hok : PgOk p) (hS : SOk S) (hl : S.length = 3 * p.P.length) {k : Nat} {r : GRule} (hr : p.R[k]? = some r) {y : Plan} {d : Int} (hy : PlanC (core O W) y p k d) : MEnv W B O g bst S be p.P p.R p.L p.St k r y.src.a y.src.len (srcOf (p.L k) d) where
  st := (eat_bst h hx).2.2.1
  sok := hS
  prg := (eat_prg h).1.uncore.prgM (eat_bst h hx).1
  nP := hok.nP
  nR := hok.nR
  rule := hr
  src := hy.2.2.uncore
  slen := by unfold srcOf; rw [List.length_mapIdx]
  srel := by
    intro z hz
    unfold srcOf at hz
    rw [List.mem_mapIdx] at hz
    obtain ⟨i, hi, e⟩ := hz
    obtain ⟨q, y', f1, f2, _⟩ := hok.lits k r hr _ (List.getElem_mem hi)
    have hq : q < p.P.length := (List.getElem?_eq_some_iff.1 f2).1
    have hn : ((p.L k)[i]).atom.pred.toNat = q := by rw [f1]; rfl
    rw [hl]
    by_cases hd : (i : Int) = d
    · rw [if_pos hd, hn] at e; omega
    · rw [if_neg hd, hn] at e; omega
  b8 := hok.b8 k r hr
  lits := hok.lits k r hr
  head := hok.head k r hr
end Go.Proofs.Qxb6500788a
