import Derived.Test.Qxb6500788aSmall
import Derived.StillTailTactics
import Derived.Deep.QuietTactic
import Derived.BigQuiet
import Derived.Deep.RegionHeld
import Derived.Deep.CutRange
import Derived.Laws.ResultCell
import Derived.Laws.Rows
import Derived.DeepKeys
import Derived.DataBytes
import Derived.Laws.StructEq
import Derived.Laws.AppendOwn
set_option linter.unusedSimpArgs false
set_option linter.unusedVariables false
namespace Go.Proofs.Qxb6500788a
open Go.RowKit Go.Blk
attribute [local go_sem ↓] execOp_load execOp_store execOp_alloc
attribute [local go_sem] Try.ld24 Try.st24 Try.ld25 Try.st25 Try.ld3 Try.st3 Try.ld30 Try.st30 Try.ld36 Try.st36 Try.ld4 Try.st4 Try.ld41 Try.st41 Try.ld50 Try.st50 Try.ld40 Try.st40 Try.ld42 Try.st42 Try.ld89 Try.st89 Try.ld91 Try.st91 Try.ld56 Try.st56 Try.ld97 Try.st97 Try.ld98 Try.st98 Try.ld101 Try.st101 Try.ld104 Try.st104 Try.ld57 Try.st57 Try.ld130 Try.st130 Try.ld2 Try.st2 Try.ld5 Try.st5 Try.ld9 Try.st9 Try.ld12 Try.st12 Try.ld21 Try.st21 Try.ld22 Try.st22 Try.ld29 Try.st29 Try.ld33 Try.st33 Try.ld59 Try.st59 Try.ld62 Try.st62 Try.ld69 Try.st69 Try.ld94 Try.st94 Try.ld96 Try.st96 Try.ld129 Try.st129 Try.ld158 Try.st158 Try.ld162 Try.st162 Try.ld47 Try.st47 Try.ld44 Try.st44 Try.ld137 Try.st137 Try.ld145 Try.st145 Try.ld43 Try.st43 Try.ld27 Try.st27 Try.ld38 Try.st38 Try.ld46 Try.st46 Try.ld49 Try.st49 Try.ld52 Try.st52 Try.ld54 Try.st54 Try.ld61 Try.st61 Try.ld80 Try.st80 Try.ld87 Try.st87 Try.ld93 Try.st93 Try.ld100 Try.st100 Try.ld103 Try.st103 Try.ld106 Try.st106 Try.ld109 Try.st109 Try.ld132 Try.st132 Try.ld147 Try.st147 Try.al47 Try.al44 Try.al137 Try.al145 Try.al43 Try.al27 Try.al38 Try.al46 Try.al49 Try.al52 Try.al54 Try.al61 Try.al80 Try.al87 Try.al93 Try.al100 Try.al103 Try.al106 Try.al109 Try.al132 Try.al147
attribute [local go_sem] GProgram.length_enc GProgram.ok_enc GProgram.all_get GProgram.all_set GProgram.preds_get GProgram.preds_set GProgram.rules_get GProgram.rules_set GProgram.strata_get GProgram.strata_set Answer.length_enc Answer.ok_enc Answer.all_get Answer.all_set Answer.code_get Answer.code_set Answer.n_get Answer.n_set Answer.rows_get Answer.rows_set Term.length_enc Term.ok_enc Term.all_get Term.all_set Term.var_get Term.var_set Term.n_get Term.n_set Atom.length_enc Atom.ok_enc Atom.all_get Atom.all_set Atom.pred_get Atom.pred_set Atom.args_get Atom.args_set GRule.length_enc GRule.ok_enc GRule.all_get GRule.all_set GRule.head_get GRule.head_set GRule.body_get GRule.body_set GRule.head_pred_get GRule.head_pred_set GRule.head_args_get GRule.head_args_set GOp.length_enc GOp.ok_enc GOp.all_get GOp.all_set GOp.kind_get GOp.kind_set GOp.pred_get GOp.pred_set GOp.t_get GOp.t_set GOp.n_get GOp.n_set GOp.base_get GOp.base_set GOp.rule_get GOp.rule_set GOp.rule_head_get GOp.rule_head_set GOp.rule_body_get GOp.rule_body_set GOp.rule_head_pred_get GOp.rule_head_pred_set GOp.rule_head_args_get GOp.rule_head_args_set PredInfo.length_enc PredInfo.ok_enc PredInfo.all_get PredInfo.all_set PredInfo.arity_get PredInfo.arity_set PredInfo.base_get PredInfo.base_set PredInfo.stratum_get PredInfo.stratum_set GStats.length_enc GStats.ok_enc GStats.all_get GStats.all_set GStats.rounds_get GStats.rounds_set GStats.fired_get GStats.fired_set GStats.emitted_get GStats.emitted_set GStats.fresh_get GStats.fresh_set Literal.length_enc Literal.ok_enc Literal.all_get Literal.all_set Literal.neg_get Literal.neg_set Literal.atom_get Literal.atom_set Literal.atom_pred_get Literal.atom_pred_set Literal.atom_args_get Literal.atom_args_set Engine.length_enc Engine.ok_enc Engine.all_get Engine.all_set Engine.prog_get Engine.prog_set Engine.st_get Engine.st_set Engine.levels_get Engine.levels_set Engine.running_get Engine.running_set Engine.stratum_get Engine.stratum_set Engine.round_get Engine.round_set Engine.saved_get Engine.saved_set Engine.stats_get Engine.stats_set Engine.prog_preds_get Engine.prog_preds_set Engine.prog_rules_get Engine.prog_rules_set Engine.prog_strata_get Engine.prog_strata_set Engine.stats_rounds_get Engine.stats_rounds_set Engine.stats_fired_get Engine.stats_fired_set Engine.stats_emitted_get Engine.stats_emitted_set Engine.stats_fresh_get Engine.stats_fresh_set Level.length_enc Level.ok_enc Level.all_get Level.all_set Level.heads_get Level.heads_set Level.jobs_get Level.jobs_set Plan.length_enc Plan.ok_enc Plan.all_get Plan.all_set Plan.rule_get Plan.rule_set Plan.delta_get Plan.delta_set Plan.src_get Plan.src_set Job.length_enc Job.ok_enc Job.all_get Job.all_set Job.full_get Job.full_set Job.deltas_get Job.deltas_set Job.full_rule_get Job.full_rule_set Job.full_delta_get Job.full_delta_set Job.full_src_get Job.full_src_set GState.length_enc GState.ok_enc GState.all_get GState.all_set GState.prog_get GState.prog_set GState.base_get GState.base_set GState.shown_get GState.shown_set GState.prog_preds_get GState.prog_preds_set GState.prog_rules_get GState.prog_rules_set GState.prog_strata_get GState.prog_strata_set Store.length_enc Store.ok_enc Store.all_get Store.all_set Store.arity_get Store.arity_set Store.rows_get Store.rows_set Env.length_enc Env.ok_enc Env.all_get Env.all_set Env.val_get Env.val_set Env.set_get Env.set_set
attribute [local go_sem] size_put size_ext blk_put free_put blk_alloc free_alloc blk_drew free_drew blk_ext free_ext lookOr_some putOr_some segAt_some cellAt_some storeIn_some put_put put_alloc_new length_arr ok_arr_u8 ok_arr_u32 ok_arr_u64 ok_arr_i64 ok_arr_sl cellsV_agg cellsV_int cellsV_bool cellsV_string cellsV_pointer cellsV_slice cellsV_sl ok_int ok_bool ok_string ok_pointer ok_slice ok_sl toList_arr seg_arr set_arr nth_splice nth_splice0 seg_splice seg_splice0 splice_splice splice_splice0 length_splice_if
attribute [local go_sem ↓] execOp_box
attribute [local go_sem] box_run nth_arr_u8 put_arr_u8 blk_drewN free_drewN put_drewN blk_raw free_raw
def buildOp (t : TypeId) (parts : Array (Nat × Value)) : Sem Next := do pure (.value (← Instr.build t parts))
theorem execOp_build (a : Act) (dst : Option Tmp) (t : TypeId) (parts : Array (Nat × Operand)) (ty : TypeId) (pos : String) (after : Array Edge) (guard : Option (Nat × Bool)) :
    execOp a.eval { dst, op := .build t parts, type := ty, pos, after, guard } = buildOp t (parts.map fun (i, x) => (i, a.eval x)) := rfl
theorem split1 {α : Type} (n : Nat) (L : List α) (h : L.length = n + 1) : ∃ x L', L = x :: L' ∧ L'.length = n := by
  cases L with
  | nil => simp at h
  | cons x L => exact ⟨x, L, rfl, by simpa using h⟩
theorem build61 (w : World) (n : Int) (b : Bool) : (buildOp 61 #[(0, .int .i64 n), (1, .bool b)]).run Try.prog w = .ok (.value (.agg (PredInfo.enc ⟨n, b, 0⟩).toArray)) w := by kernel_rfl
theorem bslice24_lit (w : World) (x0 x1 x2 : Value) : (bsliceOp 24 1 #[(0, .agg #[x0, x1, x2])]).run Try.prog w = .ok (.value (.slice (some ⟨w.heap.size, 0, none⟩) 1 1)) (w.alloc (.cells #[x0, x1, x2] 61)) := by kernel_rfl
theorem bslice24 (w : World) (x : PredInfo) : (bsliceOp 24 1 #[(0, .agg x.enc.toArray)]).run Try.prog w = .ok (.value (.slice (some ⟨w.heap.size, 0, none⟩) 1 1)) (w.alloc (.cells x.enc.toArray 61)) := bslice24_lit w _ _ _
set_option maxRecDepth 100000 in
theorem bslice25_lit (w : World) (x0 x1 x2 x3 x4 x5 x6 x7 x8 x9 : Value) : (bsliceOp 25 1 #[(0, .agg #[x0, x1, x2, x3, x4, x5, x6, x7, x8, x9])]).run Try.prog w = .ok (.value (.slice (some ⟨w.heap.size, 0, none⟩) 1 1)) (w.alloc (.cells #[x0, x1, x2, x3, x4, x5, x6, x7, x8, x9] 52)) := by kernel_rfl
theorem bslice25 (w : World) (x : GRule) : (bsliceOp 25 1 #[(0, .agg x.enc.toArray)]).run Try.prog w = .ok (.value (.slice (some ⟨w.heap.size, 0, none⟩) 1 1)) (w.alloc (.cells x.enc.toArray 52)) := by
  have hL : x.enc.length = 10 := GRule.length_enc x
  generalize x.enc = L at hL
  obtain ⟨x0, L0, rfl, hL0⟩ := split1 _ _ hL
  obtain ⟨x1, L1, rfl, hL1⟩ := split1 _ _ hL0
  obtain ⟨x2, L2, rfl, hL2⟩ := split1 _ _ hL1
  obtain ⟨x3, L3, rfl, hL3⟩ := split1 _ _ hL2
  obtain ⟨x4, L4, rfl, hL4⟩ := split1 _ _ hL3
  obtain ⟨x5, L5, rfl, hL5⟩ := split1 _ _ hL4
  obtain ⟨x6, L6, rfl, hL6⟩ := split1 _ _ hL5
  obtain ⟨x7, L7, rfl, hL7⟩ := split1 _ _ hL6
  obtain ⟨x8, L8, rfl, hL8⟩ := split1 _ _ hL7
  obtain ⟨x9, L9, rfl, hL9⟩ := split1 _ _ hL8
  obtain rfl := List.eq_nil_of_length_eq_zero hL9
  exact bslice25_lit w x0 x1 x2 x3 x4 x5 x6 x7 x8 x9
def sliceOp (t : TypeId) (x : Value) (lo hi mx : Option Value) : Sem Next := do pure (.value (← Instr.sliceAt t x lo hi mx))
theorem execOp_slice (a : Act) (dst : Option Tmp) (t : TypeId) (x : Operand) (lo hi mx : Option Operand) (ty : TypeId) (pos : String) (after : Array Edge) (guard : Option (Nat × Bool)) :
    execOp a.eval { dst, op := .slice t x lo hi mx, type := ty, pos, after, guard } = sliceOp t (a.eval x) (lo.map a.eval) (hi.map a.eval) (mx.map a.eval) := rfl
theorem slice_hi {P : Program} {t e : TypeId} (hu : P.underlying t = some (.slice e)) (hs : (P.info? e).isSome = true) (w : World) (a : Option Addr) (len cap l : Nat) (h : l ≤ cap) :
    (sliceOp t (.slice a len cap) none (some (.int .i64 (l : Int))) none).run P w = .ok (.value (.slice a l cap)) w := by
  cases hi : P.info? e with
  | none => simp [hi] at hs
  | some i =>
    have h2 : (0 : Int) ≤ l ∧ (l : Int) ≤ cap := by omega
    simp [sliceOp, Instr.sliceAt, Instr.slice, Instr.sliceBounds, Instr.sliceBound, run_underlying hu, asIntOf, sizeOf, typeInfo, hi, h2, h]
    cases a with
    | none => simp
    | some x => simp [Addr.add]
theorem sl25 (w : World) (a : Option Addr) (len cap l : Nat) (h : l ≤ cap) : (sliceOp 25 (.slice a len cap) none (some (.int .i64 (l : Int))) none).run Try.prog w = .ok (.value (.slice a l cap)) w := slice_hi Try.underlying25 (by kernel_rfl) w a len cap l h
/-- The body of the rule r can be read in every world that has grown out of w. -/
def RBody (w : World) (r : GRule) (ba : Option Addr) (bn bc : Nat) (L : List Literal) : Prop :=
  Sl.val r.body = .slice ba bn bc ∧ bn ≤ 9223372036854775807 ∧ ∀ W, w.Extends W → ∀ bp bP : Nat, w.heap.size ≤ bp → w.heap.size ≤ bP → ∃ bL oL, At Literal.enc 10 W bL oL ba bn L ∧ bL ≠ bp ∧ bL ≠ bP
theorem rbody_of {w : World} {r : GRule} {L : List Literal} (h : LitsIn w r.body L) : RBody w r r.body.a r.body.len r.body.cap L := by
  obtain ⟨h1, h2, h3, h4⟩ := h
  refine ⟨rfl, by simp only [maxLen] at h3; omega, fun W he bp bP hp hP => ?_⟩
  by_cases h0 : r.body.len = 0
  · exact ⟨bp + bP + 1, 0, ⟨h1, fun h => absurd h0 h⟩, by omega, by omega⟩
  · obtain ⟨b, o, C, e1, e2, e3, e4⟩ := h4 h0
    have hlt := blk_lt e2
    exact ⟨b, o, ⟨h1, fun _ => ⟨e1, C, (he.blk hlt).trans e2, e3, e4⟩⟩, by omega, by omega⟩
theorem preds_same {W : World} {bL oL bL' oL' : Nat} {ba : Option Addr} {bn N : Nat} {L L' : List Literal} (h : At Literal.enc 10 W bL oL ba bn L) (h' : At Literal.enc 10 W bL' oL' ba bn L') (hp : ∀ l ∈ L', 0 ≤ l.atom.pred ∧ l.atom.pred < (N : Int)) : ∀ l ∈ L, 0 ≤ l.atom.pred ∧ l.atom.pred < (N : Int) := by
  intro l hl
  obtain ⟨k, hk, rfl⟩ := List.mem_iff_getElem.1 hl
  have hkn : k < bn := by rw [← h.1]; exact hk
  obtain ⟨x, C, h1, h2, h3, h4, h5⟩ := h.get hkn
  obtain ⟨y, C', g1, g2, g3, g4, g5⟩ := h'.get hkn
  have e := Option.some.inj (h2.symm.trans g2)
  injection e with e1 e2
  subst e1 e2
  obtain rfl := Option.some.inj (h3.symm.trans g3)
  have e3 := (lit_cells h5).2.1.symm.trans (lit_cells g5).2.1
  injection e3 with e4
  injection e4 with _ e5
  have e6 : L[k] = x := by
    have := (List.getElem?_eq_getElem hk).symm.trans h1
    exact Option.some.inj this
  rw [e6, e5]
  exact hp y (List.mem_of_getElem? g1)
theorem RuleWf.kin {N : Nat} {P P' : List PredInfo} {r : GRule} {bn : Nat} {L : List Literal} (h : RuleWf N P r bn L) (hk : Kin P P') : RuleWf N P' r bn L := by
  refine ⟨h.1, h.2.1, fun x hx => ?_, h.2.2.2⟩
  obtain ⟨y, hy, _, hb⟩ := hk.get hx
  rw [← hb]; exact h.2.2.1 y hy
def RGood (w : World) (N : Nat) (P : List PredInfo) (r : GRule) : Prop := ∃ ba bn bc L, RBody w r ba bn bc L ∧ RuleWf N P r bn L
def RRead (w : World) (r : GRule) : Prop := ∃ ba bn bc L, RBody w r ba bn bc L
theorem rd_of {w W : World} (he : w.Extends W) {bp bP : Nat} (hp : w.heap.size ≤ bp) (hP : w.heap.size ≤ bP) {R : List GRule} (h : ∀ r ∈ R, RRead w r) : RulesRd W bp bP R := fun r hr => by
  obtain ⟨ba, bn, bc, L, h1, h2, h3⟩ := h r hr
  obtain ⟨bL, oL, h4, h5, h6⟩ := h3 W he bp bP hp hP
  exact ⟨ba, bn, bc, bL, oL, L, h1, h4, h5, h6, h2⟩
theorem good_of {w W : World} (he : w.Extends W) {bp bP : Nat} (hp : w.heap.size ≤ bp) (hP : w.heap.size ≤ bP) {N : Nat} {P P0 : List PredInfo} (hk : Kin P P0) {R : List GRule} (h : ∀ r ∈ R, RRead w r) (ho : RulesOk W bp bP N P R) : ∀ r ∈ R, RGood w N P0 r := fun r hr => by
  obtain ⟨ba, bn, bc, L, h1, h2, h3⟩ := h r hr
  obtain ⟨ba', bn', bc', bL', oL', L', g1, g2, _, _, g3⟩ := ho r hr
  have e := h1.symm.trans g1
  injection e with e1 e2 e3
  subst e1 e2 e3
  obtain ⟨bL, oL, h4, _, _⟩ := h3 W he bp bP hp hP
  exact ⟨ba, bn, bc, L, ⟨h1, h2, h3⟩, g3.1, g3.2.1, (g3.kin hk).2.2.1, preds_same h4 g2 g3.2.2.2⟩
theorem ok_of {w W : World} (he : w.Extends W) {bp bP : Nat} (hp : w.heap.size ≤ bp) (hP : w.heap.size ≤ bP) {N : Nat} {P : List PredInfo} {R : List GRule} (h : ∀ r ∈ R, RGood w N P r) : RulesOk W bp bP N P R := fun r hr => by
  obtain ⟨ba, bn, bc, L, ⟨h1, h2, h3⟩, h4⟩ := h r hr
  obtain ⟨bL, oL, h5, h6, h7⟩ := h3 W he bp bP hp hP
  exact ⟨ba, bn, bc, bL, oL, L, h1, h5, h6, h7, h4⟩
theorem own_free {α : Type} {e : α → List Value} {sz : Nat} {W : World} {b : Nat} {a : Option Addr} {n : Nat} {K : List α} {ty : TypeId} (h : At e sz W b 0 a n K) (h0 : n ≠ 0) (hm : W.heap[b]?.map (fun o => match o with | .cells _ t z => (t, z) | _ => (0, (1, 1))) = some (ty, (0, 0))) : free W b = true := by
  obtain ⟨_, C, h1, _⟩ := h.2 h0
  obtain ⟨t, fz, ht⟩ := blk_some h1
  rw [ht] at hm
  simp only [Option.map_some, Option.some.injEq, Prod.mk.injEq] at hm
  obtain ⟨rfl, rfl⟩ := hm
  exact free_mk ht
/-- The last of an own row is taken off: only the length changes. -/
theorem own_drop {B : Nat} {W : World} {e : TypeId} {sz : Nat} {a : Option Addr} {n c : Nat} {xs ys : List Value} (h : W.ownsRow B e sz (.slice a (n + 1) c) (n + 1) (xs ++ ys)) (hx : xs.length = n * sz) : W.ownsRow B e sz (.slice a n c) n xs ∧ n ≤ c := by
  obtain ⟨h1, h2 | ⟨g, cap, cur, e1, e2, e3, e4, e5, e6, e7⟩⟩ := h
  · exact absurd h2.2 (by omega)
  · injection e1 with q1 q2 q3
    subst q1 q3
    refine ⟨⟨hx, .inr ⟨g, c, cur, rfl, e2, e3, by omega, e5, e6, ?_⟩⟩, by omega⟩
    have := congrArg (List.take (n * sz)) e7
    rw [List.take_take, List.take_append_of_le_length (by omega), List.take_of_length_le (l := xs) (by omega)] at this
    rw [← this]
    congr 1
    have : n * sz ≤ (n + 1) * sz := Nat.mul_le_mul_right _ (by omega)
    omega
end Go.Proofs.Qxb6500788a
