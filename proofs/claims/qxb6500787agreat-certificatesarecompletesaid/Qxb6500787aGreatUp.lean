
import Derived.Test.Qxb6500787aGreatUo
import Derived.StillTailTactics
import Derived.Deep.QuietTactic
import Derived.BigQuiet
import Derived.Deep.RegionHeld
import Derived.Deep.CutRange
import Derived.Laws.ResultCell
import Derived.Laws.Rows
import Derived.DeepKeys
import Derived.DataBytes
import Derived.Laws.StructEq
import Derived.Laws.AppendOwn
import Derived.Laws.MakeOwn
import Derived.Lib.AppendStr
set_option linter.unusedSimpArgs false
set_option linter.unusedVariables false
namespace Go.Proofs.Qxb6500787aGreat
open Go.RowKit Go.Blk
attribute [local go_sem ↓] execOp_load execOp_store execOp_alloc
attribute [local go_sem] Tryz.ld26 Tryz.st26 Tryz.ld27 Tryz.st27 Tryz.ld28 Tryz.st28 Tryz.ld3 Tryz.st3 Tryz.ld29 Tryz.st29 Tryz.ld44 Tryz.st44 Tryz.ld4 Tryz.st4 Tryz.ld50 Tryz.st50 Tryz.ld32 Tryz.st32 Tryz.ld49 Tryz.st49 Tryz.ld68 Tryz.st68 Tryz.ld9 Tryz.st9 Tryz.ld40 Tryz.st40 Tryz.ld138 Tryz.st138 Tryz.ld139 Tryz.st139 Tryz.ld146 Tryz.st146 Tryz.ld183 Tryz.st183 Tryz.ld184 Tryz.st184 Tryz.ld192 Tryz.st192 Tryz.ld195 Tryz.st195 Tryz.ld217 Tryz.st217 Tryz.ld159 Tryz.st159 Tryz.ld142 Tryz.st142 Tryz.ld2 Tryz.st2 Tryz.ld5 Tryz.st5 Tryz.ld12 Tryz.st12 Tryz.ld21 Tryz.st21 Tryz.ld22 Tryz.st22 Tryz.ld24 Tryz.st24 Tryz.ld58 Tryz.st58 Tryz.ld97 Tryz.st97 Tryz.ld101 Tryz.st101 Tryz.ld116 Tryz.st116 Tryz.ld121 Tryz.st121 Tryz.ld135 Tryz.st135 Tryz.ld136 Tryz.st136 Tryz.ld143 Tryz.st143 Tryz.ld148 Tryz.st148 Tryz.ld154 Tryz.st154 Tryz.ld173 Tryz.st173 Tryz.ld187 Tryz.st187 Tryz.ld222 Tryz.st222 Tryz.ld241 Tryz.st241 Tryz.ld248 Tryz.st248 Tryz.ld268 Tryz.st268 Tryz.ld272 Tryz.st272 Tryz.ld153 Tryz.st153 Tryz.ld255 Tryz.st255 Tryz.ld256 Tryz.st256 Tryz.ld129 Tryz.st129 Tryz.ld152 Tryz.st152 Tryz.ld31 Tryz.st31 Tryz.ld46 Tryz.st46 Tryz.ld52 Tryz.st52 Tryz.ld54 Tryz.st54 Tryz.ld60 Tryz.st60 Tryz.ld70 Tryz.st70 Tryz.ld74 Tryz.st74 Tryz.ld93 Tryz.st93 Tryz.ld141 Tryz.st141 Tryz.ld151 Tryz.st151 Tryz.ld170 Tryz.st170 Tryz.ld186 Tryz.st186 Tryz.ld189 Tryz.st189 Tryz.ld194 Tryz.st194 Tryz.ld197 Tryz.st197 Tryz.ld219 Tryz.st219 Tryz.ld224 Tryz.st224 Tryz.ld230 Tryz.st230 Tryz.ld235 Tryz.st235 Tryz.ld243 Tryz.st243 Tryz.ld247 Tryz.st247 Tryz.ld252 Tryz.st252 Tryz.ld258 Tryz.st258 Tryz.al153 Tryz.al255 Tryz.al256 Tryz.al129 Tryz.al152 Tryz.al31 Tryz.al46 Tryz.al52 Tryz.al54 Tryz.al60 Tryz.al70 Tryz.al74 Tryz.al93 Tryz.al141 Tryz.al151 Tryz.al170 Tryz.al186 Tryz.al189 Tryz.al194 Tryz.al197 Tryz.al219 Tryz.al224 Tryz.al230 Tryz.al235 Tryz.al243 Tryz.al247 Tryz.al252 Tryz.al258
attribute [local go_sem] Request.length_enc Request.ok_enc Request.all_get Request.all_set Request.kind_get Request.kind_set Request.blob_get Request.blob_set Request.items_get Request.items_set Request.pred_get Request.pred_set Request.slots_get Request.slots_set Trace.length_enc Trace.ok_enc Trace.all_get Trace.all_set Trace.op_get Trace.op_set Trace.calls_get Trace.calls_set Item.length_enc Item.ok_enc Item.all_get Item.all_set Item.del_get Item.del_set Item.pred_get Item.pred_set Item.args_get Item.args_set Reply.length_enc Reply.ok_enc Reply.all_get Reply.all_set Reply.code_get Reply.code_set Reply.kind_get Reply.kind_set Reply.index_get Reply.index_set Reply.yes_get Reply.yes_set Reply.preds_get Reply.preds_set Reply.rules_get Reply.rules_set Reply.arity_get Reply.arity_set Reply.rows_get Reply.rows_set Reply.fact_get Reply.fact_set Reply.fact_del_get Reply.fact_del_set Reply.fact_pred_get Reply.fact_pred_set Reply.fact_args_get Reply.fact_args_set GEntry.length_enc GEntry.ok_enc GEntry.all_get GEntry.all_set GEntry.seq_get GEntry.seq_set GEntry.kind_get GEntry.kind_set GEntry.code_get GEntry.code_set GOp.length_enc GOp.ok_enc GOp.all_get GOp.all_set GOp.kind_get GOp.kind_set GOp.raw_get GOp.raw_set Reader.length_enc Reader.ok_enc Reader.all_get Reader.all_set Reader.buf_get Reader.buf_set Reader.at__get Reader.at__set Slot.length_enc Slot.ok_enc Slot.all_get Slot.all_set Slot.bound_get Slot.bound_set Slot.name_get Slot.name_set Session.length_enc Session.ok_enc Session.all_get Session.all_set Session.svc_get Session.svc_set Session.buf_get Session.buf_set Session.closed_get Session.closed_set GProgram.length_enc GProgram.ok_enc GProgram.all_get GProgram.all_set GProgram.pool_get GProgram.pool_set GProgram.preds_get GProgram.preds_set GProgram.rules_get GProgram.rules_set GProgram.strata_get GProgram.strata_set PredInfo.length_enc PredInfo.ok_enc PredInfo.all_get PredInfo.all_set PredInfo.arity_get PredInfo.arity_set PredInfo.base_get PredInfo.base_set PredInfo.stratum_get PredInfo.stratum_set Change.length_enc Change.ok_enc Change.all_get Change.all_set Change.del_get Change.del_set Change.pred_get Change.pred_set Change.t_get Change.t_set Store.length_enc Store.ok_enc Store.all_get Store.all_set Store.names_get Store.names_set Store.arity_get Store.arity_set Store.rows_get Store.rows_set Src.length_enc Src.ok_enc Src.all_get Src.all_set Src.b_get Src.b_set Src.at__get Src.at__set Atom.length_enc Atom.ok_enc Atom.all_get Atom.all_set Atom.pred_get Atom.pred_set Atom.args_get Atom.args_set GRule.length_enc GRule.ok_enc GRule.all_get GRule.all_set GRule.head_get GRule.head_set GRule.body_get GRule.body_set GRule.head_pred_get GRule.head_pred_set GRule.head_args_get GRule.head_args_set Cert.length_enc Cert.ok_enc Cert.all_get Cert.all_set Cert.names_get Cert.names_set Cert.nodes_get Cert.nodes_set Fact.length_enc Fact.ok_enc Fact.all_get Fact.all_set Fact.pred_get Fact.pred_set Fact.t_get Fact.t_set Literal.length_enc Literal.ok_enc Literal.all_get Literal.all_set Literal.neg_get Literal.neg_set Literal.atom_get Literal.atom_set Literal.atom_pred_get Literal.atom_pred_set Literal.atom_args_get Literal.atom_args_set Engine.length_enc Engine.ok_enc Engine.all_get Engine.all_set Engine.prog_get Engine.prog_set Engine.st_get Engine.st_set SrcCertm.length_enc SrcCertm.ok_enc SrcCertm.all_get SrcCertm.all_set SrcCertm.b_get SrcCertm.b_set SrcCertm.at__get SrcCertm.at__set GNode.length_enc GNode.ok_enc GNode.all_get GNode.all_set GNode.rule_get GNode.rule_set GNode.pred_get GNode.pred_set GNode.vals_get GNode.vals_set GNode.refs_get GNode.refs_set Term.length_enc Term.ok_enc Term.all_get Term.all_set Term.var_get Term.var_set Term.n_get Term.n_set Env.length_enc Env.ok_enc Env.all_get Env.all_set Env.val_get Env.val_set Env.set_get Env.set_set
attribute [local go_sem] size_put size_ext blk_put free_put blk_alloc free_alloc blk_drew free_drew blk_ext free_ext lookOr_some putOr_some segAt_some cellAt_some storeIn_some put_put put_alloc_new length_arr ok_arr_u8 ok_arr_u32 ok_arr_u64 ok_arr_i64 ok_arr_sl cellsV_agg cellsV_int cellsV_bool cellsV_string cellsV_pointer cellsV_slice cellsV_sl ok_int ok_bool ok_string ok_pointer ok_slice ok_sl toList_arr seg_arr set_arr nth_splice nth_splice0 seg_splice seg_splice0 splice_splice splice_splice0 length_splice_if
attribute [local go_sem ↓] execOp_box
attribute [local go_sem] box_run nth_arr_u8 put_arr_u8 blk_drewN free_drewN put_drewN blk_raw free_raw
theorem fields224 : (Tryz.prog.fieldsOf 272).toList.map (fun f => (f.type, f.offset)) = [(3, 0), (214, 1)] := by kernel_rfl
theorem named224 : ∀ f ∈ (Tryz.prog.fieldsOf 272).toList, f.name ≠ "_" := by
  have h : ((Tryz.prog.fieldsOf 272).toList.all fun f => f.name != "_") = true := by kernel_rfl
  intro f hf
  simpa using List.all_eq_true.1 h f hf
theorem part153_lit (w : World) (p a b c d : Int) : (part 214 #[.int .i64 p, .int .i64 a, .int .i64 b, .int .i64 c, .int .i64 d] 1).run Tryz.prog w = .ok (.agg #[.int .i64 a, .int .i64 b, .int .i64 c, .int .i64 d]) w := by kernel_rfl
theorem part153 (w : World) (x : Fact) : (part 214 x.enc.toArray 1).run Tryz.prog w = .ok (.agg (arr i64v x.t).toArray) w := by
  have e1 : x.enc = [.int .i64 x.pred, .int .i64 (tg x.t 0), .int .i64 (tg x.t 1), .int .i64 (tg x.t 2), .int .i64 (tg x.t 3)] := by
    show .int .i64 x.pred :: arr i64v x.t = _
    rw [arr4]
  rw [e1, arr4]
  exact part153_lit w _ _ _ _ _
theorem part3 (w : World) (x : Fact) : (part 3 x.enc.toArray 0).run Tryz.prog w = .ok (.int .i64 x.pred) w := run_part_plain w (by kernel_rfl) rfl
instance : DecidableEq Fact := fun a b => decidable_of_iff (a.pred = b.pred ∧ a.t = b.t) (by
  constructor
  · rintro ⟨h1, h2⟩
    cases a; cases b; simp_all
  · rintro rfl; exact ⟨rfl, rfl⟩)
def rF (a b : Fact) : Nat → Bool
  | 0 => decide (a.pred = b.pred) | 1 => decide (a.t = b.t) | _ => true
theorem rF_all (a b : Fact) : [0, 1].all (rF a b) = decide (a = b) := by
  apply Bool.eq_iff_iff.2
  simp only [List.all_cons, List.all_nil, Bool.and_true, Bool.and_eq_true, rF, decide_eq_true_eq]
  constructor
  · rintro ⟨h1, h2⟩
    cases a; cases b; simp_all
  · rintro rfl; exact ⟨rfl, rfl⟩
theorem eq224 (w : World) (d : Nat) (a b : Fact) : (Op.equalIn (d + 3) 272 (.agg a.enc.toArray) (.agg b.enc.toArray)).run Tryz.prog w = .ok (decide (a = b)) w := by
  rw [run_equalIn_struct w (d + 2) 272 _ _ (by kernel_rfl) (by kernel_rfl), eqFields_all w (d + 2) _ _ (rF a b) _ ?_]
  · have hmap : ((Tryz.prog.fieldsOf 272).toList.map (fun f => f.offset)) = [0, 1] := by kernel_rfl
    rw [hmap, rF_all]
  intro f hf
  refine ⟨named224 f hf, ?_⟩
  have hm : (f.type, f.offset) ∈ (Tryz.prog.fieldsOf 272).toList.map (fun f => (f.type, f.offset)) := List.mem_map.2 ⟨f, hf, rfl⟩
  rw [fields224] at hm
  simp only [List.mem_cons, Prod.mk.injEq, List.mem_nil_iff, or_false] at hm
  rcases hm with ⟨h1, h2⟩ | ⟨h1, h2⟩ <;> rw [h1, h2]
  · refine ⟨_, _, part3 w a, part3 w b, ?_⟩
    rw [run_equalIn_int w (d + 1) 3 .i64 .i64 _ _ (by kernel_rfl)]
    have h9 : (a.pred == b.pred) = rF a b 0 := by
      show (a.pred == b.pred) = decide (a.pred = b.pred)
      by_cases h : a.pred = b.pred
      · rw [decide_eq_true h]; simpa using h
      · rw [decide_eq_false h]; simpa using h
    rw [h9]
  · exact ⟨_, _, part153 w a, part153 w b, eq153 w d a.t b.t⟩
theorem execOp_neq224 (a : Act) (dst : Option Tmp) (x y : Operand) (ty : TypeId) (pos : String) (after : Array Edge) (guard : Option (Nat × Bool)) :
    execOp a.eval { dst, op := .binOp .neq 272 x y 272, type := ty, pos, after, guard } = cmpNe 272 x y (a.eval x) (a.eval y) := rfl
theorem guard224 (w : World) (op : BinOp) (x y : Operand) (a b : Fact) : (eqGuard op 272 x y (.agg a.enc.toArray) (.agg b.enc.toArray)).run Tryz.prog w = .ok () w := by
  have ht : Tryz.prog.eqGuardType Tryz.prog.depth 272 = false := by kernel_rfl
  unfold eqGuard
  cases op <;> simp [Sem.run_bind, run_program, ht]
theorem neq224 (w : World) (x y : Operand) (a b : Fact) : (cmpNe 272 x y (.agg a.enc.toArray) (.agg b.enc.toArray)).run Tryz.prog w = .ok (.value (.bool (!decide (a = b)))) w := by
  have h1 : (binOp .neq 272 (.agg a.enc.toArray) (.agg b.enc.toArray)).run Tryz.prog w = .ok (.bool (!decide (a = b))) w := by rw [run_neq_struct, eq224 w 9997]; rfl
  unfold cmpNe
  simp only [Sem.run_bind, guard224, Result.andThen_ok, h1]
  rfl
theorem el222 : ElT Fact.enc 5 40 270 272 := by
  have info : ∃ i z, Tryz.prog.info? 272 = some i ∧ i.zero = some z ∧ i.size = 5 ∧ i.bytes = 40 ∧ z.cells.size = 5 := by
    have hq : (Tryz.prog.info? 272).map (fun i => (i.zero, i.size, i.bytes)) = some (some (.agg (Fact.zero.enc).toArray), 5, 40) := by kernel_rfl
    cases hx : Tryz.prog.info? 272 with
    | none => rw [hx] at hq; simp at hq
    | some i =>
      rw [hx] at hq
      simp only [Option.map_some, Option.some.injEq, Prod.mk.injEq] at hq
      exact ⟨i, _, rfl, hq.1, hq.2.1, hq.2.2, by rfl⟩
  exact ⟨Tryz.underlying270, info, Fact.length_enc, Fact.one_enc, by omega, by omega⟩
theorem bslice222_lit (w : World) (p a b c d : Int) : (bsliceOp 270 1 #[(0, .agg #[.int .i64 p, .int .i64 a, .int .i64 b, .int .i64 c, .int .i64 d])]).run Tryz.prog w = .ok (.value (.slice (some ⟨w.heap.size, 0, none⟩) 1 1)) (w.alloc (.cells #[.int .i64 p, .int .i64 a, .int .i64 b, .int .i64 c, .int .i64 d] 272)) := by kernel_rfl
theorem bslice222 (w : World) (x : Fact) : (bsliceOp 270 1 #[(0, .agg x.enc.toArray)]).run Tryz.prog w = .ok (.value (.slice (some ⟨w.heap.size, 0, none⟩) 1 1)) (w.alloc (.cells x.enc.toArray 272)) := by
  have e1 : x.enc = [.int .i64 x.pred, .int .i64 (tg x.t 0), .int .i64 (tg x.t 1), .int .i64 (tg x.t 2), .int .i64 (tg x.t 3)] := by
    show .int .i64 x.pred :: arr i64v x.t = _
    rw [arr4]
  rw [e1]
  exact bslice222_lit w _ _ _ _ _
theorem bslice248 (w : World) (v : Int) : (bsliceOp 293 1 #[(0, .int .i64 v)]).run Tryz.prog w = .ok (.value (.slice (some ⟨w.heap.size, 0, none⟩) 1 1)) (w.alloc (.cells (encZ v).toArray 212)) := by kernel_rfl
theorem el248 : ElT encZ 1 8 293 212 := ⟨Tryz.underlying293, info146, encZ_len, encZ_one, by omega, by omega⟩
/-- The values that a node gives, or the fault. -/
def nvF (N nms : List (List UInt8)) : List Int → List Int → Option (List Int)
  | [], acc => some acc
  | v :: vs, acc => if (nms.length : Int) ≤ v then none else nvF N nms vs (acc ++ [lookF N (nms.getD v.toNat [])])
/-- The body of the node's rule, literal by literal. -/
def nbF (R : List (List Tup)) (i : Nat) (vals refs : List Int) (bef : List Fact) : List PL → Nat → Int × Nat
  | [], u => (0, u)
  | l :: ls, u => if insOk l.atom vals = false then (39, u) else if l.neg then (if insT l.atom vals ∈ rowsAt R l.atom.pred then (42, u) else nbF R i vals refs bef ls u) else
    if refs.length ≤ u then (39, u) else if (i : Int) ≤ refs.getD u 0 then (35, u) else if bef.getD (refs.getD u 0).toNat Fact.zero ≠ ⟨(l.atom.pred : Int), insT l.atom vals⟩ then (41, u) else nbF R i vals refs bef ls (u + 1)
def nrF (p : PP) (R : List (List Tup)) (i : Nat) (d : CNode) (vals : List Int) (bef : List Fact) : Int × Fact :=
  if (p.rules.length : Int) ≤ d.rule then (38, Fact.zero) else
  if (nbF R i vals d.refs bef (p.rules.getD d.rule.toNat ⟨⟨0, []⟩, []⟩).body 0).1 ≠ 0 then ((nbF R i vals d.refs bef (p.rules.getD d.rule.toNat ⟨⟨0, []⟩, []⟩).body 0).1, Fact.zero) else
  if insOk (p.rules.getD d.rule.toNat ⟨⟨0, []⟩, []⟩).head vals = false ∨ (nbF R i vals d.refs bef (p.rules.getD d.rule.toNat ⟨⟨0, []⟩, []⟩).body 0).2 ≠ d.refs.length then (39, Fact.zero) else
  (0, ⟨((p.rules.getD d.rule.toNat ⟨⟨0, []⟩, []⟩).head.pred : Int), insT (p.rules.getD d.rule.toNat ⟨⟨0, []⟩, []⟩).head vals⟩)
def nlF (p : PP) (R : List (List Tup)) (d : CNode) (vals : List Int) : Int × Fact :=
  if (p.preds.length : Int) ≤ d.pred ∨ (pI p d.pred.toNat).base = false then (37, Fact.zero) else
  if (vals.length : Int) ≠ (pI p d.pred.toNat).arity then (39, Fact.zero) else
  if mkT (fun c => vals.getD c 0) vals.length ∉ rowsAt R d.pred.toNat then (40, Fact.zero) else (0, ⟨d.pred, mkT (fun c => vals.getD c 0) vals.length⟩)
/-- One node, checked plainly. -/
def ndF (p : PP) (N : List (List UInt8)) (R : List (List Tup)) (nms : List (List UInt8)) (i : Nat) (d : CNode) (bef : List Fact) : Int × Fact := match nvF N nms d.vals [] with
  | none => (36, Fact.zero)
  | some vals => if d.rule < 0 then nlF p R d vals else nrF p R i d vals bef
end Go.Proofs.Qxb6500787aGreat
