import Derived.Test.Qxb6500788aLoop
import Derived.StillTailTactics
import Derived.Deep.QuietTactic
import Derived.BigQuiet
import Derived.Deep.RegionHeld
import Derived.Deep.CutRange
import Derived.Laws.ResultCell
import Derived.Laws.Rows
import Derived.DeepKeys
import Derived.DataBytes
import Derived.Laws.StructEq
import Derived.Laws.AppendOwn
set_option linter.unusedSimpArgs false
set_option linter.unusedVariables false
namespace Go.Proofs.Qxb6500788a
open Go.RowKit Go.Blk
attribute [local go_sem ↓] execOp_load execOp_store execOp_alloc
attribute [local go_sem] Try.ld24 Try.st24 Try.ld25 Try.st25 Try.ld3 Try.st3 Try.ld30 Try.st30 Try.ld36 Try.st36 Try.ld4 Try.st4 Try.ld41 Try.st41 Try.ld50 Try.st50 Try.ld40 Try.st40 Try.ld42 Try.st42 Try.ld89 Try.st89 Try.ld91 Try.st91 Try.ld56 Try.st56 Try.ld97 Try.st97 Try.ld98 Try.st98 Try.ld101 Try.st101 Try.ld104 Try.st104 Try.ld57 Try.st57 Try.ld130 Try.st130 Try.ld2 Try.st2 Try.ld5 Try.st5 Try.ld9 Try.st9 Try.ld12 Try.st12 Try.ld21 Try.st21 Try.ld22 Try.st22 Try.ld29 Try.st29 Try.ld33 Try.st33 Try.ld59 Try.st59 Try.ld62 Try.st62 Try.ld69 Try.st69 Try.ld94 Try.st94 Try.ld96 Try.st96 Try.ld129 Try.st129 Try.ld158 Try.st158 Try.ld162 Try.st162 Try.ld47 Try.st47 Try.ld44 Try.st44 Try.ld137 Try.st137 Try.ld145 Try.st145 Try.ld43 Try.st43 Try.ld27 Try.st27 Try.ld38 Try.st38 Try.ld46 Try.st46 Try.ld49 Try.st49 Try.ld52 Try.st52 Try.ld54 Try.st54 Try.ld61 Try.st61 Try.ld80 Try.st80 Try.ld87 Try.st87 Try.ld93 Try.st93 Try.ld100 Try.st100 Try.ld103 Try.st103 Try.ld106 Try.st106 Try.ld109 Try.st109 Try.ld132 Try.st132 Try.ld147 Try.st147 Try.al47 Try.al44 Try.al137 Try.al145 Try.al43 Try.al27 Try.al38 Try.al46 Try.al49 Try.al52 Try.al54 Try.al61 Try.al80 Try.al87 Try.al93 Try.al100 Try.al103 Try.al106 Try.al109 Try.al132 Try.al147
attribute [local go_sem] GProgram.length_enc GProgram.ok_enc GProgram.all_get GProgram.all_set GProgram.preds_get GProgram.preds_set GProgram.rules_get GProgram.rules_set GProgram.strata_get GProgram.strata_set Answer.length_enc Answer.ok_enc Answer.all_get Answer.all_set Answer.code_get Answer.code_set Answer.n_get Answer.n_set Answer.rows_get Answer.rows_set Term.length_enc Term.ok_enc Term.all_get Term.all_set Term.var_get Term.var_set Term.n_get Term.n_set Atom.length_enc Atom.ok_enc Atom.all_get Atom.all_set Atom.pred_get Atom.pred_set Atom.args_get Atom.args_set GRule.length_enc GRule.ok_enc GRule.all_get GRule.all_set GRule.head_get GRule.head_set GRule.body_get GRule.body_set GRule.head_pred_get GRule.head_pred_set GRule.head_args_get GRule.head_args_set GOp.length_enc GOp.ok_enc GOp.all_get GOp.all_set GOp.kind_get GOp.kind_set GOp.pred_get GOp.pred_set GOp.t_get GOp.t_set GOp.n_get GOp.n_set GOp.base_get GOp.base_set GOp.rule_get GOp.rule_set GOp.rule_head_get GOp.rule_head_set GOp.rule_body_get GOp.rule_body_set GOp.rule_head_pred_get GOp.rule_head_pred_set GOp.rule_head_args_get GOp.rule_head_args_set PredInfo.length_enc PredInfo.ok_enc PredInfo.all_get PredInfo.all_set PredInfo.arity_get PredInfo.arity_set PredInfo.base_get PredInfo.base_set PredInfo.stratum_get PredInfo.stratum_set GStats.length_enc GStats.ok_enc GStats.all_get GStats.all_set GStats.rounds_get GStats.rounds_set GStats.fired_get GStats.fired_set GStats.emitted_get GStats.emitted_set GStats.fresh_get GStats.fresh_set Literal.length_enc Literal.ok_enc Literal.all_get Literal.all_set Literal.neg_get Literal.neg_set Literal.atom_get Literal.atom_set Literal.atom_pred_get Literal.atom_pred_set Literal.atom_args_get Literal.atom_args_set Engine.length_enc Engine.ok_enc Engine.all_get Engine.all_set Engine.prog_get Engine.prog_set Engine.st_get Engine.st_set Engine.levels_get Engine.levels_set Engine.running_get Engine.running_set Engine.stratum_get Engine.stratum_set Engine.round_get Engine.round_set Engine.saved_get Engine.saved_set Engine.stats_get Engine.stats_set Engine.prog_preds_get Engine.prog_preds_set Engine.prog_rules_get Engine.prog_rules_set Engine.prog_strata_get Engine.prog_strata_set Engine.stats_rounds_get Engine.stats_rounds_set Engine.stats_fired_get Engine.stats_fired_set Engine.stats_emitted_get Engine.stats_emitted_set Engine.stats_fresh_get Engine.stats_fresh_set Level.length_enc Level.ok_enc Level.all_get Level.all_set Level.heads_get Level.heads_set Level.jobs_get Level.jobs_set Plan.length_enc Plan.ok_enc Plan.all_get Plan.all_set Plan.rule_get Plan.rule_set Plan.delta_get Plan.delta_set Plan.src_get Plan.src_set Job.length_enc Job.ok_enc Job.all_get Job.all_set Job.full_get Job.full_set Job.deltas_get Job.deltas_set Job.full_rule_get Job.full_rule_set Job.full_delta_get Job.full_delta_set Job.full_src_get Job.full_src_set GState.length_enc GState.ok_enc GState.all_get GState.all_set GState.prog_get GState.prog_set GState.base_get GState.base_set GState.shown_get GState.shown_set GState.prog_preds_get GState.prog_preds_set GState.prog_rules_get GState.prog_rules_set GState.prog_strata_get GState.prog_strata_set Store.length_enc Store.ok_enc Store.all_get Store.all_set Store.arity_get Store.arity_set Store.rows_get Store.rows_set Env.length_enc Env.ok_enc Env.all_get Env.all_set Env.val_get Env.val_set Env.set_get Env.set_set
attribute [local go_sem] size_put size_ext blk_put free_put blk_alloc free_alloc blk_drew free_drew blk_ext free_ext lookOr_some putOr_some segAt_some cellAt_some storeIn_some put_put put_alloc_new length_arr ok_arr_u8 ok_arr_u32 ok_arr_u64 ok_arr_i64 ok_arr_sl cellsV_agg cellsV_int cellsV_bool cellsV_string cellsV_pointer cellsV_slice cellsV_sl ok_int ok_bool ok_string ok_pointer ok_slice ok_sl toList_arr seg_arr set_arr nth_splice nth_splice0 seg_splice seg_splice0 splice_splice splice_splice0 length_splice_if
theorem blk_raw (w : World) (t : Nat → Question → Nat) (d : Nat) (os : Os) (u : Array (Nat × ByteArray)) (b : Nat) : blk ⟨w.heap, t, d, os, u⟩ b = blk w b := rfl
theorem free_raw (w : World) (t : Nat → Question → Nat) (d : Nat) (os : Os) (u : Array (Nat × ByteArray)) (b : Nat) : free ⟨w.heap, t, d, os, u⟩ b = free w b := rfl
theorem blk_drewN (w : World) (n b : Nat) : blk (w.drewN n) b = blk w b := rfl
theorem free_drewN (w : World) (n b : Nat) : free (w.drewN n) b = free w b := rfl
theorem put_drewN (w : World) (n b : Nat) (D : List Value) : put (w.drewN n) b D = (put w b D).drewN n := rfl
theorem _root_.Go.Blk.Out.drewN {w w' : World} {b : Nat} {X : List Value} (h : Out w w' b X) (n : Nat) : Out w (w'.drewN n) b X := by obtain ⟨G, m, rfl⟩ := h; exact ⟨G, m + n, by simp [ext, World.drewN, Nat.add_assoc]⟩
theorem wraps_i64 (n : Int) (h₀ : 0 ≤ n) (h₁ : n < 2 ^ 63) : IntKind.i64.wrap n = n := by rw [IntKind.wrap_i64]; omega
theorem Try.mixed : Try.prog.follows .mixedOrders = true := by kernel_rfl
def lenV : Value → Nat
  | .slice _ n _ => n
  | _ => 0
/-- One round; the ring's step; t rounds; a block; all blocks. -/
theorem wp_world {P : Program} {c : Code} {Q : Exit → Act → World → Prop} {a : Act} {W : World} (F : World → Prop) (hF : F W) (h : ∀ W', F W' → Code.wp P c Q a W') : Code.wp P c Q a W := h W hF
theorem w8_lt (a : UInt8) : a.toNat < 256 := a.toNat_lt
theorem ret_cell {P : Program} {fn : Func} {R : Ending → World → Prop} {a : Act} {w : World} {p : Tmp} {ty : TypeId} {g : Nat} {C : List Value} (h : fn.results = #[.cell p ty]) (hp : a.tmps.getD p undef = .pointer (some ⟨g, 0, none⟩)) (hb : blk w g = some C)
    (hr : ((P.underlying ty).map fun d => (match d with | .struct _ | .array _ _ => true | _ => false)) = some true) (hi : (P.info? ty).map (·.size) = some C.length) (hdf : a.defers = []) (hR : R (.returned (.agg C.toArray)) w) : bodyPost P fn R .ret a w := by
  obtain ⟨t, fz, ht⟩ := blk_some hb
  obtain ⟨d, hu, hd⟩ : ∃ d, P.underlying ty = some d ∧ (match d with | .struct _ | .array _ _ => true | _ => false) = true := by
    cases hx : P.underlying ty with
    | none => simp [hx] at hr
    | some d => exact ⟨d, rfl, by simpa [hx] using hr⟩
  exact bodyPost_ret (results_cell_row h a.tmps w g t C.toArray fz d hp ht hu (by cases d <;> simp_all) (by simpa using hi)) hdf hR
theorem ret_cell_tmp {P : Program} {fn : Func} {R : Ending → World → Prop} {a : Act} {w : World} {p u : Tmp} {ty : TypeId} {g : Nat} {C : List Value} {v : Value} (h : fn.results = #[.cell p ty, .tmp u]) (hp : a.tmps.getD p undef = .pointer (some ⟨g, 0, none⟩)) (hv : a.tmps.getD u undef = v) (hb : blk w g = some C)
    (hr : ((P.underlying ty).map fun d => (match d with | .struct _ | .array _ _ => true | _ => false)) = some true) (hi : (P.info? ty).map (·.size) = some C.length) (hdf : a.defers = []) (hR : R (.returned (.tuple #[.agg C.toArray, v])) w) : bodyPost P fn R .ret a w := by
  obtain ⟨t, fz, ht⟩ := blk_some hb
  obtain ⟨d, hu, hd⟩ : ∃ d, P.underlying ty = some d ∧ (match d with | .struct _ | .array _ _ => true | _ => false) = true := by
    cases hx : P.underlying ty with
    | none => simp [hx] at hr
    | some d => exact ⟨d, rfl, by simpa [hx] using hr⟩
  refine bodyPost_ret ?_ hdf hR
  rw [results_cell_tmp h, hp, hv]
  have hp' := run_loadVar_row (P := P) w g t ty C.toArray fz d ht hu (by cases d <;> simp_all) (by simpa using hi)
  simp [asAddr, hp', Result.andThen]
def boxOp (t : TypeId) (v : Value) : Sem Next := do pure (.value (← Instr.box t v))
theorem execOp_box (a : Act) (dst : Option Tmp) (t : TypeId) (x : Operand) (ty : TypeId) (pos : String) (after : Array Edge) (guard : Option (Nat × Bool)) :
    execOp a.eval { dst, op := .box t x, type := ty, pos, after, guard } = boxOp t (a.eval x) := rfl
theorem box_run {P : Program} (w : World) (t : TypeId) (L : List Value) : (boxOp t (.agg L.toArray)).run P w = .ok (.value (.pointer (some ⟨w.heap.size, 0, none⟩))) (w.alloc (.cells L.toArray t)) := by
  simp [boxOp, Instr.box, newVar, newRow, Value.cells]
theorem ext_Ext {w w' : World} (h : Ext w w') : w.Extends w' := by
  obtain ⟨G, n, rfl⟩ := h
  have hb : ∀ i, i < w.heap.size → (ext w G n).heap[i]? = w.heap[i]? := fun i hi => by rw [heap_ext, if_pos hi]
  exact ⟨rfl, rfl, rfl, by rw [size_ext]; omega, fun a ha => World.cell?_of_block (hb _ ha), fun a ha => World.frozen?_of_block (hb _ ha), hb⟩
theorem extends_alloc {w W : World} (h : w.Extends W) (o : Obj) : w.Extends (W.alloc o) := by
  have hb : ∀ i, i < w.heap.size → (W.alloc o).heap[i]? = w.heap[i]? := fun i hi => by rw [heap_alloc_old _ _ (Nat.lt_of_lt_of_le hi h.size)]; exact h.block i hi
  exact ⟨h.os, h.tape, h.output, by rw [World.size_alloc]; have := h.size; omega, fun a ha => World.cell?_of_block (hb _ ha), fun a ha => World.frozen?_of_block (hb _ ha), hb⟩
theorem extends_drewN {w W : World} (h : w.Extends W) (n : Nat) : w.Extends (W.drewN n) :=
  ⟨h.os, h.tape, h.output, h.size, h.cell, h.frozen, h.block⟩
theorem extends_drew {w W : World} (h : w.Extends W) : w.Extends W.drew :=
  ⟨h.os, h.tape, h.output, h.size, h.cell, h.frozen, h.block⟩
theorem blk_of_heap {w W : World} {b : Nat} (h : W.heap[b]? = w.heap[b]?) : blk W b = blk w b := by unfold blk; rw [h]
theorem free_of_heap {w W : World} {b : Nat} (h : W.heap[b]? = w.heap[b]?) : free W b = free w b := by unfold free; rw [h]
theorem _root_.Go.World.Extends.blk {w W : World} (h : w.Extends W) {b : Nat} (hb : b < w.heap.size) : Blk.blk W b = Blk.blk w b := blk_of_heap (h.block b hb)
theorem _root_.Go.Blk.Ext.drewN {w W : World} (h : Ext w W) (n : Nat) : Ext w (W.drewN n) := by obtain ⟨G, m, rfl⟩ := h; exact ⟨G, m + n, by simp [World.drewN, Blk.ext, Nat.add_assoc]⟩
end Go.Proofs.Qxb6500788a
