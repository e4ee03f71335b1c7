import Derived.Test.Qxb6500788aSf0
import Derived.StillTailTactics
import Derived.Deep.QuietTactic
import Derived.BigQuiet
import Derived.Deep.RegionHeld
import Derived.Deep.CutRange
import Derived.Laws.ResultCell
import Derived.Laws.Rows
import Derived.DeepKeys
import Derived.DataBytes
import Derived.Laws.StructEq
import Derived.Laws.AppendOwn
set_option linter.unusedSimpArgs false
set_option linter.unusedVariables false
namespace Go.Proofs.Qxb6500788a
open Go.RowKit Go.Blk
attribute [local go_sem ↓] execOp_load execOp_store execOp_alloc
attribute [local go_sem] Try.ld24 Try.st24 Try.ld25 Try.st25 Try.ld3 Try.st3 Try.ld30 Try.st30 Try.ld36 Try.st36 Try.ld4 Try.st4 Try.ld41 Try.st41 Try.ld50 Try.st50 Try.ld40 Try.st40 Try.ld42 Try.st42 Try.ld89 Try.st89 Try.ld91 Try.st91 Try.ld56 Try.st56 Try.ld97 Try.st97 Try.ld98 Try.st98 Try.ld101 Try.st101 Try.ld104 Try.st104 Try.ld57 Try.st57 Try.ld130 Try.st130 Try.ld2 Try.st2 Try.ld5 Try.st5 Try.ld9 Try.st9 Try.ld12 Try.st12 Try.ld21 Try.st21 Try.ld22 Try.st22 Try.ld29 Try.st29 Try.ld33 Try.st33 Try.ld59 Try.st59 Try.ld62 Try.st62 Try.ld69 Try.st69 Try.ld94 Try.st94 Try.ld96 Try.st96 Try.ld129 Try.st129 Try.ld158 Try.st158 Try.ld162 Try.st162 Try.ld47 Try.st47 Try.ld44 Try.st44 Try.ld137 Try.st137 Try.ld145 Try.st145 Try.ld43 Try.st43 Try.ld27 Try.st27 Try.ld38 Try.st38 Try.ld46 Try.st46 Try.ld49 Try.st49 Try.ld52 Try.st52 Try.ld54 Try.st54 Try.ld61 Try.st61 Try.ld80 Try.st80 Try.ld87 Try.st87 Try.ld93 Try.st93 Try.ld100 Try.st100 Try.ld103 Try.st103 Try.ld106 Try.st106 Try.ld109 Try.st109 Try.ld132 Try.st132 Try.ld147 Try.st147 Try.al47 Try.al44 Try.al137 Try.al145 Try.al43 Try.al27 Try.al38 Try.al46 Try.al49 Try.al52 Try.al54 Try.al61 Try.al80 Try.al87 Try.al93 Try.al100 Try.al103 Try.al106 Try.al109 Try.al132 Try.al147
attribute [local go_sem] GProgram.length_enc GProgram.ok_enc GProgram.all_get GProgram.all_set GProgram.preds_get GProgram.preds_set GProgram.rules_get GProgram.rules_set GProgram.strata_get GProgram.strata_set Answer.length_enc Answer.ok_enc Answer.all_get Answer.all_set Answer.code_get Answer.code_set Answer.n_get Answer.n_set Answer.rows_get Answer.rows_set Term.length_enc Term.ok_enc Term.all_get Term.all_set Term.var_get Term.var_set Term.n_get Term.n_set Atom.length_enc Atom.ok_enc Atom.all_get Atom.all_set Atom.pred_get Atom.pred_set Atom.args_get Atom.args_set GRule.length_enc GRule.ok_enc GRule.all_get GRule.all_set GRule.head_get GRule.head_set GRule.body_get GRule.body_set GRule.head_pred_get GRule.head_pred_set GRule.head_args_get GRule.head_args_set GOp.length_enc GOp.ok_enc GOp.all_get GOp.all_set GOp.kind_get GOp.kind_set GOp.pred_get GOp.pred_set GOp.t_get GOp.t_set GOp.n_get GOp.n_set GOp.base_get GOp.base_set GOp.rule_get GOp.rule_set GOp.rule_head_get GOp.rule_head_set GOp.rule_body_get GOp.rule_body_set GOp.rule_head_pred_get GOp.rule_head_pred_set GOp.rule_head_args_get GOp.rule_head_args_set PredInfo.length_enc PredInfo.ok_enc PredInfo.all_get PredInfo.all_set PredInfo.arity_get PredInfo.arity_set PredInfo.base_get PredInfo.base_set PredInfo.stratum_get PredInfo.stratum_set GStats.length_enc GStats.ok_enc GStats.all_get GStats.all_set GStats.rounds_get GStats.rounds_set GStats.fired_get GStats.fired_set GStats.emitted_get GStats.emitted_set GStats.fresh_get GStats.fresh_set Literal.length_enc Literal.ok_enc Literal.all_get Literal.all_set Literal.neg_get Literal.neg_set Literal.atom_get Literal.atom_set Literal.atom_pred_get Literal.atom_pred_set Literal.atom_args_get Literal.atom_args_set Engine.length_enc Engine.ok_enc Engine.all_get Engine.all_set Engine.prog_get Engine.prog_set Engine.st_get Engine.st_set Engine.levels_get Engine.levels_set Engine.running_get Engine.running_set Engine.stratum_get Engine.stratum_set Engine.round_get Engine.round_set Engine.saved_get Engine.saved_set Engine.stats_get Engine.stats_set Engine.prog_preds_get Engine.prog_preds_set Engine.prog_rules_get Engine.prog_rules_set Engine.prog_strata_get Engine.prog_strata_set Engine.stats_rounds_get Engine.stats_rounds_set Engine.stats_fired_get Engine.stats_fired_set Engine.stats_emitted_get Engine.stats_emitted_set Engine.stats_fresh_get Engine.stats_fresh_set Level.length_enc Level.ok_enc Level.all_get Level.all_set Level.heads_get Level.heads_set Level.jobs_get Level.jobs_set Plan.length_enc Plan.ok_enc Plan.all_get Plan.all_set Plan.rule_get Plan.rule_set Plan.delta_get Plan.delta_set Plan.src_get Plan.src_set Job.length_enc Job.ok_enc Job.all_get Job.all_set Job.full_get Job.full_set Job.deltas_get Job.deltas_set Job.full_rule_get Job.full_rule_set Job.full_delta_get Job.full_delta_set Job.full_src_get Job.full_src_set GState.length_enc GState.ok_enc GState.all_get GState.all_set GState.prog_get GState.prog_set GState.base_get GState.base_set GState.shown_get GState.shown_set GState.prog_preds_get GState.prog_preds_set GState.prog_rules_get GState.prog_rules_set GState.prog_strata_get GState.prog_strata_set Store.length_enc Store.ok_enc Store.all_get Store.all_set Store.arity_get Store.arity_set Store.rows_get Store.rows_set Env.length_enc Env.ok_enc Env.all_get Env.all_set Env.val_get Env.val_set Env.set_get Env.set_set
attribute [local go_sem] size_put size_ext blk_put free_put blk_alloc free_alloc blk_drew free_drew blk_ext free_ext lookOr_some putOr_some segAt_some cellAt_some storeIn_some put_put put_alloc_new length_arr ok_arr_u8 ok_arr_u32 ok_arr_u64 ok_arr_i64 ok_arr_sl cellsV_agg cellsV_int cellsV_bool cellsV_string cellsV_pointer cellsV_slice cellsV_sl ok_int ok_bool ok_string ok_pointer ok_slice ok_sl toList_arr seg_arr set_arr nth_splice nth_splice0 seg_splice seg_splice0 splice_splice splice_splice0 length_splice_if
attribute [local go_sem ↓] execOp_box
attribute [local go_sem] box_run nth_arr_u8 put_arr_u8 blk_drewN free_drewN put_drewN blk_raw free_raw
def prgE (aP : Option Addr) (N cP : Nat) (aR : Option Addr) (M cR : Nat) (S : Int) : List Value := GProgram.enc ⟨⟨aP, N, cP⟩, ⟨aR, M, cR⟩, S⟩
theorem prg_len (aP : Option Addr) (N cP : Nat) (aR : Option Addr) (M cR : Nat) (S : Int) : (prgE aP N cP aR M cR S).length = 3 := GProgram.length_enc _
theorem prg0 (aP : Option Addr) (N cP : Nat) (aR : Option Addr) (M cR : Nat) (S : Int) : nth (prgE aP N cP aR M cR S) 0 = some (.slice aP N cP) := GProgram.preds_get _
theorem prg1 (aP : Option Addr) (N cP : Nat) (aR : Option Addr) (M cR : Nat) (S : Int) : nth (prgE aP N cP aR M cR S) 1 = some (.slice aR M cR) := GProgram.rules_get _
theorem prg2 (aP : Option Addr) (N cP : Nat) (aR : Option Addr) (M cR : Nat) (S : Int) : nth (prgE aP N cP aR M cR S) 2 = some (.int .i64 S) := GProgram.strata_get _
theorem prg_set0 (aP : Option Addr) (N cP : Nat) (aR : Option Addr) (M cR : Nat) (S : Int) (a : Option Addr) (n c : Nat) : splice (prgE aP N cP aR M cR S) 0 [.slice a n c] = prgE a n c aR M cR S := GProgram.preds_set _ ⟨a, n, c⟩
theorem prg_set1 (aP : Option Addr) (N cP : Nat) (aR : Option Addr) (M cR : Nat) (S : Int) (a : Option Addr) (n c : Nat) : splice (prgE aP N cP aR M cR S) 1 [.slice a n c] = prgE aP N cP a n c S := GProgram.rules_set _ ⟨a, n, c⟩
theorem prg_set2 (aP : Option Addr) (N cP : Nat) (aR : Option Addr) (M cR : Nat) (S v : Int) : splice (prgE aP N cP aR M cR S) 2 [.int .i64 v] = prgE aP N cP aR M cR v := GProgram.strata_set _ v
theorem prg_all (aP : Option Addr) (N cP : Nat) (aR : Option Addr) (M cR : Nat) (S : Int) : seg (prgE aP N cP aR M cR S) 0 3 = prgE aP N cP aR M cR S := GProgram.all_get _
theorem prg_ok (aP : Option Addr) (N cP : Nat) (aR : Option Addr) (M cR : Nat) (S : Int) : okCells 3 (prgE aP N cP aR M cR S) = true := GProgram.ok_enc _
/-- The same predicates, but for their strata. -/
def Kin (P P' : List PredInfo) : Prop := P'.map (fun x => (x.arity, x.base)) = P.map (fun x => (x.arity, x.base))
theorem Kin.set {P P' : List PredInfo} (h : Kin P P') (i : Nat) (v : Int) : Kin P (setS P' i v) := by
  unfold Kin at *
  rw [← h]
  apply List.ext_getElem?
  intro k
  rw [List.getElem?_map, List.getElem?_map, setS_get]
  split
  · cases P'[k]? <;> rfl
  · rfl
theorem Kin.get {P P' : List PredInfo} (h : Kin P P') {i : Nat} {x : PredInfo} (hx : P'[i]? = some x) : ∃ y, P[i]? = some y ∧ y.arity = x.arity ∧ y.base = x.base := by
  have h1 := congrArg (fun l => l[i]?) h
  simp only [List.getElem?_map, hx, Option.map_some] at h1
  cases hy : P[i]? with
  | none => rw [hy] at h1; simp at h1
  | some y =>
    rw [hy] at h1
    simp only [Option.map_some, Option.some.injEq, Prod.mk.injEq] at h1
    exact ⟨y, rfl, h1.1.symm, h1.2.symm⟩
theorem Kin.symm {P P' : List PredInfo} (h : Kin P P') : Kin P' P := Eq.symm h
theorem Kin.trans {P P' P'' : List PredInfo} (h : Kin P P') (h' : Kin P' P'') : Kin P P'' := Eq.trans h' h
theorem Kin.arity {P P' : List PredInfo} (h : Kin P P') (hA : ∀ x ∈ P, x.arity ≤ 4) : ∀ x ∈ P', x.arity ≤ 4 := fun x hx => by
  obtain ⟨k, hk, rfl⟩ := List.mem_iff_getElem.1 hx
  obtain ⟨y, hy, h1, _⟩ := h.get (List.getElem?_eq_getElem hk)
  rw [← h1]; exact hA y (List.mem_of_getElem? hy)
/-- The program in memory: its variable, its predicates. -/
def PM (bp bP : Nat) (aP : Option Addr) (N cP : Nat) (aR : Option Addr) (M cR : Nat) (S : Int) (P : List PredInfo) (W : World) : Prop :=
  blk W bp = some (prgE aP N cP aR M cR S) ∧ free W bp = true ∧ At PredInfo.enc 3 W bP 0 aP N P ∧ (N ≠ 0 → free W bP = true)
theorem PM.drewN {bp bP : Nat} {aP : Option Addr} {N cP : Nat} {aR : Option Addr} {M cR : Nat} {S : Int} {P : List PredInfo} {W : World} (h : PM bp bP aP N cP aR M cR S P W) (n : Nat) : PM bp bP aP N cP aR M cR S P (W.drewN n) := h
theorem PM.setS {bp bP : Nat} {aP : Option Addr} {N cP : Nat} {aR : Option Addr} {M cR : Nat} {S : Int} {P : List PredInfo} {W : World} (h : PM bp bP aP N cP aR M cR S P W) (hne : bp ≠ bP) {C : List Value} (hC : blk W bP = some C) {k : Nat} (hk : k < N) (v : Int) :
    PM bp bP aP N cP aR M cR S (setS P k v) (put W bP (splice C (k * 3 + 2) [.int .i64 v])) := by
  obtain ⟨h1, h2, h3, h4⟩ := h
  refine ⟨by rw [blk_put, if_neg hne]; exact h1, by rw [free_put]; exact h2, h3.setS hC hk (by rw [blk_put, if_pos rfl, hC]; rfl), fun h0 => by rw [free_put]; exact h4 h0⟩
theorem PM.strata {bp bP : Nat} {aP : Option Addr} {N cP : Nat} {aR : Option Addr} {M cR : Nat} {S : Int} {P : List PredInfo} {W : World} (h : PM bp bP aP N cP aR M cR S P W) (hne : bp ≠ bP) (v : Int) :
    PM bp bP aP N cP aR M cR v P (put W bp (prgE aP N cP aR M cR v)) := by
  obtain ⟨h1, h2, h3, h4⟩ := h
  refine ⟨by rw [blk_put, if_pos rfl, h1]; rfl, by rw [free_put]; exact h2, h3.mono (fun _ => by rw [blk_put, if_neg (Ne.symm hne)]), fun h0 => by rw [free_put]; exact h4 h0⟩
/-- What the predicate k holds. -/
theorem PM.at {bp bP : Nat} {aP : Option Addr} {N cP : Nat} {aR : Option Addr} {M cR : Nat} {S : Int} {P : List PredInfo} {W : World} (h : PM bp bP aP N cP aR M cR S P W) {k : Nat} (hk : k < N) :
    ∃ x C, P[k]? = some x ∧ aP = some ⟨bP, 0, none⟩ ∧ blk W bP = some C ∧ free W bP = true ∧ N * 3 ≤ C.length ∧ nth C (k * 3) = some (.int .i64 x.arity) ∧ nth C (k * 3 + 1) = some (.bool x.base) ∧ nth C (k * 3 + 2) = some (.int .i64 x.stratum) ∧ seg C (k * 3) 3 = x.enc := by
  obtain ⟨x, C, h1, h2, h3, h4, h5⟩ := h.2.2.1.get hk
  rw [Nat.zero_add] at h4 h5
  exact ⟨x, C, h1, h2, h3, h.2.2.2 (by omega), h4, by have := nth_in h5 (PredInfo.arity_get x) (by omega); simpa using this, nth_in h5 (PredInfo.base_get x) (by omega), nth_in h5 (PredInfo.stratum_get x) (by omega), h5⟩
theorem nth_of_At {W : World} {bP : Nat} {aP : Option Addr} {N : Nat} {P : List PredInfo} {C : List Value} (h : At PredInfo.enc 3 W bP 0 aP N P) (hC : blk W bP = some C) {k : Nat} {x : PredInfo} (hx : P[k]? = some x) : nth C (k * 3 + 2) = some (.int .i64 x.stratum) := by
  have hk : k < N := by rw [← h.1]; exact (List.getElem?_eq_some_iff.1 hx).1
  obtain ⟨y, C', h1, h2, h3, h4, h5⟩ := h.get hk
  obtain rfl : C' = C := Option.some.inj (h3.symm.trans hC)
  obtain rfl : y = x := Option.some.inj (h1.symm.trans hx)
  rw [Nat.zero_add] at h5
  exact nth_in h5 (PredInfo.stratum_get y) (by omega)
/-- The rules, read: each has its body, and is well formed. -/
def RulesOk (W : World) (bp bP : Nat) (N : Nat) (P : List PredInfo) (R : List GRule) : Prop :=
  ∀ r ∈ R, ∃ ba bn bc bL oL L, Sl.val r.body = .slice ba bn bc ∧ At Literal.enc 10 W bL oL ba bn L ∧ bL ≠ bp ∧ bL ≠ bP ∧ RuleWf N P r bn L
def DS (N bp bP : Nat) (k : Nat) : Prop := k = bp ∨ (N ≠ 0 ∧ k = bP)
def Low (P : List PredInfo) (N : Nat) : Prop := ∀ (k : Nat) (x : PredInfo), P[k]? = some x → 0 ≤ x.stratum ∧ x.stratum ≤ (N : Int) - 1
def StratPost (bp bP : Nat) (aP : Option Addr) (N cP : Nat) (aR : Option Addr) (M cR : Nat) (S : Int) (P : List PredInfo) (w : World) (e : Ending) (w' : World) : Prop :=
  ∃ b P' S', e = .returned (.bool b) ∧ PM bp bP aP N cP aR M cR S' P' w' ∧ Kin P P' ∧ Side (DS N bp bP) w w' ∧ (b = true → 1 ≤ S' ∧ S' ≤ 65) ∧ (b = false → S' = S) ∧ (M = 0 → b = true)
end Go.Proofs.Qxb6500788a
