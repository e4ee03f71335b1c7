import Derived.Test.Qxb6500787aGreatUs
import Derived.Test.Qxb6500787aGreatPi

import Derived.StillTailTactics
import Derived.Deep.QuietTactic
import Derived.BigQuiet
import Derived.Deep.RegionHeld
import Derived.Deep.CutRange
import Derived.Laws.ResultCell
import Derived.Laws.Rows
import Derived.DeepKeys
import Derived.DataBytes
import Derived.Laws.StructEq
import Derived.Laws.AppendOwn
import Derived.Laws.MakeOwn
import Derived.Lib.AppendStr
set_option linter.unusedSimpArgs false
set_option linter.unusedVariables false
namespace Go.Proofs.Qxb6500787aGreat
open Go.RowKit Go.Blk
attribute [local go_sem ↓] execOp_load execOp_store execOp_alloc
attribute [local go_sem] Tryz.ld26 Tryz.st26 Tryz.ld27 Tryz.st27 Tryz.ld28 Tryz.st28 Tryz.ld3 Tryz.st3 Tryz.ld29 Tryz.st29 Tryz.ld44 Tryz.st44 Tryz.ld4 Tryz.st4 Tryz.ld50 Tryz.st50 Tryz.ld32 Tryz.st32 Tryz.ld49 Tryz.st49 Tryz.ld68 Tryz.st68 Tryz.ld9 Tryz.st9 Tryz.ld40 Tryz.st40 Tryz.ld138 Tryz.st138 Tryz.ld139 Tryz.st139 Tryz.ld146 Tryz.st146 Tryz.ld183 Tryz.st183 Tryz.ld184 Tryz.st184 Tryz.ld192 Tryz.st192 Tryz.ld195 Tryz.st195 Tryz.ld217 Tryz.st217 Tryz.ld159 Tryz.st159 Tryz.ld142 Tryz.st142 Tryz.ld2 Tryz.st2 Tryz.ld5 Tryz.st5 Tryz.ld12 Tryz.st12 Tryz.ld21 Tryz.st21 Tryz.ld22 Tryz.st22 Tryz.ld24 Tryz.st24 Tryz.ld58 Tryz.st58 Tryz.ld97 Tryz.st97 Tryz.ld101 Tryz.st101 Tryz.ld116 Tryz.st116 Tryz.ld121 Tryz.st121 Tryz.ld135 Tryz.st135 Tryz.ld136 Tryz.st136 Tryz.ld143 Tryz.st143 Tryz.ld148 Tryz.st148 Tryz.ld154 Tryz.st154 Tryz.ld173 Tryz.st173 Tryz.ld187 Tryz.st187 Tryz.ld222 Tryz.st222 Tryz.ld241 Tryz.st241 Tryz.ld248 Tryz.st248 Tryz.ld268 Tryz.st268 Tryz.ld272 Tryz.st272 Tryz.ld153 Tryz.st153 Tryz.ld255 Tryz.st255 Tryz.ld256 Tryz.st256 Tryz.ld129 Tryz.st129 Tryz.ld152 Tryz.st152 Tryz.ld31 Tryz.st31 Tryz.ld46 Tryz.st46 Tryz.ld52 Tryz.st52 Tryz.ld54 Tryz.st54 Tryz.ld60 Tryz.st60 Tryz.ld70 Tryz.st70 Tryz.ld74 Tryz.st74 Tryz.ld93 Tryz.st93 Tryz.ld141 Tryz.st141 Tryz.ld151 Tryz.st151 Tryz.ld170 Tryz.st170 Tryz.ld186 Tryz.st186 Tryz.ld189 Tryz.st189 Tryz.ld194 Tryz.st194 Tryz.ld197 Tryz.st197 Tryz.ld219 Tryz.st219 Tryz.ld224 Tryz.st224 Tryz.ld230 Tryz.st230 Tryz.ld235 Tryz.st235 Tryz.ld243 Tryz.st243 Tryz.ld247 Tryz.st247 Tryz.ld252 Tryz.st252 Tryz.ld258 Tryz.st258 Tryz.al153 Tryz.al255 Tryz.al256 Tryz.al129 Tryz.al152 Tryz.al31 Tryz.al46 Tryz.al52 Tryz.al54 Tryz.al60 Tryz.al70 Tryz.al74 Tryz.al93 Tryz.al141 Tryz.al151 Tryz.al170 Tryz.al186 Tryz.al189 Tryz.al194 Tryz.al197 Tryz.al219 Tryz.al224 Tryz.al230 Tryz.al235 Tryz.al243 Tryz.al247 Tryz.al252 Tryz.al258
attribute [local go_sem] Request.length_enc Request.ok_enc Request.all_get Request.all_set Request.kind_get Request.kind_set Request.blob_get Request.blob_set Request.items_get Request.items_set Request.pred_get Request.pred_set Request.slots_get Request.slots_set Trace.length_enc Trace.ok_enc Trace.all_get Trace.all_set Trace.op_get Trace.op_set Trace.calls_get Trace.calls_set Item.length_enc Item.ok_enc Item.all_get Item.all_set Item.del_get Item.del_set Item.pred_get Item.pred_set Item.args_get Item.args_set Reply.length_enc Reply.ok_enc Reply.all_get Reply.all_set Reply.code_get Reply.code_set Reply.kind_get Reply.kind_set Reply.index_get Reply.index_set Reply.yes_get Reply.yes_set Reply.preds_get Reply.preds_set Reply.rules_get Reply.rules_set Reply.arity_get Reply.arity_set Reply.rows_get Reply.rows_set Reply.fact_get Reply.fact_set Reply.fact_del_get Reply.fact_del_set Reply.fact_pred_get Reply.fact_pred_set Reply.fact_args_get Reply.fact_args_set GEntry.length_enc GEntry.ok_enc GEntry.all_get GEntry.all_set GEntry.seq_get GEntry.seq_set GEntry.kind_get GEntry.kind_set GEntry.code_get GEntry.code_set GOp.length_enc GOp.ok_enc GOp.all_get GOp.all_set GOp.kind_get GOp.kind_set GOp.raw_get GOp.raw_set Reader.length_enc Reader.ok_enc Reader.all_get Reader.all_set Reader.buf_get Reader.buf_set Reader.at__get Reader.at__set Slot.length_enc Slot.ok_enc Slot.all_get Slot.all_set Slot.bound_get Slot.bound_set Slot.name_get Slot.name_set Session.length_enc Session.ok_enc Session.all_get Session.all_set Session.svc_get Session.svc_set Session.buf_get Session.buf_set Session.closed_get Session.closed_set GProgram.length_enc GProgram.ok_enc GProgram.all_get GProgram.all_set GProgram.pool_get GProgram.pool_set GProgram.preds_get GProgram.preds_set GProgram.rules_get GProgram.rules_set GProgram.strata_get GProgram.strata_set PredInfo.length_enc PredInfo.ok_enc PredInfo.all_get PredInfo.all_set PredInfo.arity_get PredInfo.arity_set PredInfo.base_get PredInfo.base_set PredInfo.stratum_get PredInfo.stratum_set Change.length_enc Change.ok_enc Change.all_get Change.all_set Change.del_get Change.del_set Change.pred_get Change.pred_set Change.t_get Change.t_set Store.length_enc Store.ok_enc Store.all_get Store.all_set Store.names_get Store.names_set Store.arity_get Store.arity_set Store.rows_get Store.rows_set Src.length_enc Src.ok_enc Src.all_get Src.all_set Src.b_get Src.b_set Src.at__get Src.at__set Atom.length_enc Atom.ok_enc Atom.all_get Atom.all_set Atom.pred_get Atom.pred_set Atom.args_get Atom.args_set GRule.length_enc GRule.ok_enc GRule.all_get GRule.all_set GRule.head_get GRule.head_set GRule.body_get GRule.body_set GRule.head_pred_get GRule.head_pred_set GRule.head_args_get GRule.head_args_set Cert.length_enc Cert.ok_enc Cert.all_get Cert.all_set Cert.names_get Cert.names_set Cert.nodes_get Cert.nodes_set Fact.length_enc Fact.ok_enc Fact.all_get Fact.all_set Fact.pred_get Fact.pred_set Fact.t_get Fact.t_set Literal.length_enc Literal.ok_enc Literal.all_get Literal.all_set Literal.neg_get Literal.neg_set Literal.atom_get Literal.atom_set Literal.atom_pred_get Literal.atom_pred_set Literal.atom_args_get Literal.atom_args_set Engine.length_enc Engine.ok_enc Engine.all_get Engine.all_set Engine.prog_get Engine.prog_set Engine.st_get Engine.st_set SrcCertm.length_enc SrcCertm.ok_enc SrcCertm.all_get SrcCertm.all_set SrcCertm.b_get SrcCertm.b_set SrcCertm.at__get SrcCertm.at__set GNode.length_enc GNode.ok_enc GNode.all_get GNode.all_set GNode.rule_get GNode.rule_set GNode.pred_get GNode.pred_set GNode.vals_get GNode.vals_set GNode.refs_get GNode.refs_set Term.length_enc Term.ok_enc Term.all_get Term.all_set Term.var_get Term.var_set Term.n_get Term.n_set Env.length_enc Env.ok_enc Env.all_get Env.all_set Env.val_get Env.val_set Env.set_get Env.set_set
attribute [local go_sem] size_put size_ext blk_put free_put blk_alloc free_alloc blk_drew free_drew blk_ext free_ext lookOr_some putOr_some segAt_some cellAt_some storeIn_some put_put put_alloc_new length_arr ok_arr_u8 ok_arr_u32 ok_arr_u64 ok_arr_i64 ok_arr_sl cellsV_agg cellsV_int cellsV_bool cellsV_string cellsV_pointer cellsV_slice cellsV_sl ok_int ok_bool ok_string ok_pointer ok_slice ok_sl toList_arr seg_arr set_arr nth_splice nth_splice0 seg_splice seg_splice0 splice_splice splice_splice0 length_splice_if
attribute [local go_sem ↓] execOp_box
attribute [local go_sem] box_run nth_arr_u8 put_arr_u8 blk_drewN free_drewN put_drewN blk_raw free_raw
/-- The policy inside a state: at offset 2 of its block. -/
def ProgT (W : World) (bp : Nat) (p : PP) : Prop := ProgO W bp 2 p
theorem ProgT.ext {W W' : World} {bp : Nat} {p : PP} (h : ProgT W bp p) (hs : W.Extends W') : ProgT W' bp p := ProgO.sub h (Sub.ext hs)
theorem ProgT.cells {W : World} {bp : Nat} {p : PP} (h : ProgT W bp p) : ∃ Ce pa pc da dc ra rc, blk W bp = some Ce ∧ 6 ≤ Ce.length ∧ nth Ce 2 = some (.slice pa p.pool.length pc) ∧ nth Ce 3 = some (.slice da p.preds.length dc) ∧ nth Ce 4 = some (.slice ra p.rules.length rc) ∧ nth Ce 5 = some (.int .i64 p.strata) ∧ Rw encS 1 W pa p.pool.length p.pool ∧ Rw PredInfo.enc 3 W da p.preds.length p.preds ∧ (∀ (i : Nat) (r : PR), p.rules[i]? = some r → ∃ b C x, ra = some ⟨b, 0, none⟩ ∧ blk W b = some C ∧ i * 3 + 3 ≤ C.length ∧ seg C (i * 3) 3 = x.enc ∧ nth C (i * 3) = some (.int .i64 (r.head.pred : Int)) ∧ RuleC W x r) := by
  obtain ⟨Ce, c1, c2, sp, sd, sr, h1, h2, h3, h4, h5, h6, Rs, h7, h8, h9⟩ := h
  rw [nth_drop] at h1 h2 h3 h4
  have e1 : sp.len = p.pool.length := h5.1.symm
  have e2 : sd.len = p.preds.length := h6.1.symm
  have e3 : sr.len = p.rules.length := by rw [← h8]; exact h7.1.symm
  refine ⟨Ce, sp.a, sp.cap, sd.a, sd.cap, sr.a, sr.cap, c1, c2, by rw [h1, ← e1]; rfl, by rw [h2, ← e2]; rfl, by rw [h3, ← e3]; rfl, h4, by rw [← e1]; exact h5, by rw [← e2]; exact h6, fun i r hr => ?_⟩
  have hi : i < Rs.length := by rw [h8]; exact (List.getElem?_eq_some_iff.1 hr).1
  obtain ⟨x, hx⟩ : ∃ x, Rs[i]? = some x := ⟨_, List.getElem?_eq_getElem hi⟩
  obtain ⟨b, C, k1, k2, k3, k4⟩ := h7.2 i x hx
  have hR := h9 i x r hx hr
  have h5 : (i + 1) * 3 ≤ sr.len * 3 := Nat.mul_le_mul_right _ (by have := h7.1; omega)
  refine ⟨b, C, x, k1, k2, by omega, k4, ?_, hR⟩
  have := nth_in (j := 0) k4 (GRule.head_pred_get x) (by omega)
  rw [hR.1.1] at this; exact this
attribute [local go_sem ↓] execOp_load execOp_store execOp_alloc
attribute [local go_sem] Tryz.ld26 Tryz.st26 Tryz.ld27 Tryz.st27 Tryz.ld28 Tryz.st28 Tryz.ld3 Tryz.st3 Tryz.ld29 Tryz.st29 Tryz.ld44 Tryz.st44 Tryz.ld4 Tryz.st4 Tryz.ld50 Tryz.st50 Tryz.ld32 Tryz.st32 Tryz.ld49 Tryz.st49 Tryz.ld68 Tryz.st68 Tryz.ld9 Tryz.st9 Tryz.ld40 Tryz.st40 Tryz.ld138 Tryz.st138 Tryz.ld139 Tryz.st139 Tryz.ld146 Tryz.st146 Tryz.ld183 Tryz.st183 Tryz.ld184 Tryz.st184 Tryz.ld192 Tryz.st192 Tryz.ld195 Tryz.st195 Tryz.ld217 Tryz.st217 Tryz.ld159 Tryz.st159 Tryz.ld142 Tryz.st142 Tryz.ld2 Tryz.st2 Tryz.ld5 Tryz.st5 Tryz.ld12 Tryz.st12 Tryz.ld21 Tryz.st21 Tryz.ld22 Tryz.st22 Tryz.ld24 Tryz.st24 Tryz.ld58 Tryz.st58 Tryz.ld97 Tryz.st97 Tryz.ld101 Tryz.st101 Tryz.ld116 Tryz.st116 Tryz.ld121 Tryz.st121 Tryz.ld135 Tryz.st135 Tryz.ld136 Tryz.st136 Tryz.ld143 Tryz.st143 Tryz.ld148 Tryz.st148 Tryz.ld154 Tryz.st154 Tryz.ld173 Tryz.st173 Tryz.ld187 Tryz.st187 Tryz.ld222 Tryz.st222 Tryz.ld241 Tryz.st241 Tryz.ld248 Tryz.st248 Tryz.ld268 Tryz.st268 Tryz.ld272 Tryz.st272 Tryz.ld153 Tryz.st153 Tryz.ld255 Tryz.st255 Tryz.ld256 Tryz.st256 Tryz.ld129 Tryz.st129 Tryz.ld152 Tryz.st152 Tryz.ld31 Tryz.st31 Tryz.ld46 Tryz.st46 Tryz.ld52 Tryz.st52 Tryz.ld54 Tryz.st54 Tryz.ld60 Tryz.st60 Tryz.ld70 Tryz.st70 Tryz.ld74 Tryz.st74 Tryz.ld93 Tryz.st93 Tryz.ld141 Tryz.st141 Tryz.ld151 Tryz.st151 Tryz.ld170 Tryz.st170 Tryz.ld186 Tryz.st186 Tryz.ld189 Tryz.st189 Tryz.ld194 Tryz.st194 Tryz.ld197 Tryz.st197 Tryz.ld219 Tryz.st219 Tryz.ld224 Tryz.st224 Tryz.ld230 Tryz.st230 Tryz.ld235 Tryz.st235 Tryz.ld243 Tryz.st243 Tryz.ld247 Tryz.st247 Tryz.ld252 Tryz.st252 Tryz.ld258 Tryz.st258 Tryz.al153 Tryz.al255 Tryz.al256 Tryz.al129 Tryz.al152 Tryz.al31 Tryz.al46 Tryz.al52 Tryz.al54 Tryz.al60 Tryz.al70 Tryz.al74 Tryz.al93 Tryz.al141 Tryz.al151 Tryz.al170 Tryz.al186 Tryz.al189 Tryz.al194 Tryz.al197 Tryz.al219 Tryz.al224 Tryz.al230 Tryz.al235 Tryz.al243 Tryz.al247 Tryz.al252 Tryz.al258
attribute [local go_sem] Request.length_enc Request.ok_enc Request.all_get Request.all_set Request.kind_get Request.kind_set Request.blob_get Request.blob_set Request.items_get Request.items_set Request.pred_get Request.pred_set Request.slots_get Request.slots_set Trace.length_enc Trace.ok_enc Trace.all_get Trace.all_set Trace.op_get Trace.op_set Trace.calls_get Trace.calls_set Item.length_enc Item.ok_enc Item.all_get Item.all_set Item.del_get Item.del_set Item.pred_get Item.pred_set Item.args_get Item.args_set Reply.length_enc Reply.ok_enc Reply.all_get Reply.all_set Reply.code_get Reply.code_set Reply.kind_get Reply.kind_set Reply.index_get Reply.index_set Reply.yes_get Reply.yes_set Reply.preds_get Reply.preds_set Reply.rules_get Reply.rules_set Reply.arity_get Reply.arity_set Reply.rows_get Reply.rows_set Reply.fact_get Reply.fact_set Reply.fact_del_get Reply.fact_del_set Reply.fact_pred_get Reply.fact_pred_set Reply.fact_args_get Reply.fact_args_set GEntry.length_enc GEntry.ok_enc GEntry.all_get GEntry.all_set GEntry.seq_get GEntry.seq_set GEntry.kind_get GEntry.kind_set GEntry.code_get GEntry.code_set GOp.length_enc GOp.ok_enc GOp.all_get GOp.all_set GOp.kind_get GOp.kind_set GOp.raw_get GOp.raw_set Reader.length_enc Reader.ok_enc Reader.all_get Reader.all_set Reader.buf_get Reader.buf_set Reader.at__get Reader.at__set Slot.length_enc Slot.ok_enc Slot.all_get Slot.all_set Slot.bound_get Slot.bound_set Slot.name_get Slot.name_set Session.length_enc Session.ok_enc Session.all_get Session.all_set Session.svc_get Session.svc_set Session.buf_get Session.buf_set Session.closed_get Session.closed_set GProgram.length_enc GProgram.ok_enc GProgram.all_get GProgram.all_set GProgram.pool_get GProgram.pool_set GProgram.preds_get GProgram.preds_set GProgram.rules_get GProgram.rules_set GProgram.strata_get GProgram.strata_set PredInfo.length_enc PredInfo.ok_enc PredInfo.all_get PredInfo.all_set PredInfo.arity_get PredInfo.arity_set PredInfo.base_get PredInfo.base_set PredInfo.stratum_get PredInfo.stratum_set Change.length_enc Change.ok_enc Change.all_get Change.all_set Change.del_get Change.del_set Change.pred_get Change.pred_set Change.t_get Change.t_set Store.length_enc Store.ok_enc Store.all_get Store.all_set Store.names_get Store.names_set Store.arity_get Store.arity_set Store.rows_get Store.rows_set Src.length_enc Src.ok_enc Src.all_get Src.all_set Src.b_get Src.b_set Src.at__get Src.at__set Atom.length_enc Atom.ok_enc Atom.all_get Atom.all_set Atom.pred_get Atom.pred_set Atom.args_get Atom.args_set GRule.length_enc GRule.ok_enc GRule.all_get GRule.all_set GRule.head_get GRule.head_set GRule.body_get GRule.body_set GRule.head_pred_get GRule.head_pred_set GRule.head_args_get GRule.head_args_set Cert.length_enc Cert.ok_enc Cert.all_get Cert.all_set Cert.names_get Cert.names_set Cert.nodes_get Cert.nodes_set Fact.length_enc Fact.ok_enc Fact.all_get Fact.all_set Fact.pred_get Fact.pred_set Fact.t_get Fact.t_set Literal.length_enc Literal.ok_enc Literal.all_get Literal.all_set Literal.neg_get Literal.neg_set Literal.atom_get Literal.atom_set Literal.atom_pred_get Literal.atom_pred_set Literal.atom_args_get Literal.atom_args_set Engine.length_enc Engine.ok_enc Engine.all_get Engine.all_set Engine.prog_get Engine.prog_set Engine.st_get Engine.st_set SrcCertm.length_enc SrcCertm.ok_enc SrcCertm.all_get SrcCertm.all_set SrcCertm.b_get SrcCertm.b_set SrcCertm.at__get SrcCertm.at__set GNode.length_enc GNode.ok_enc GNode.all_get GNode.all_set GNode.rule_get GNode.rule_set GNode.pred_get GNode.pred_set GNode.vals_get GNode.vals_set GNode.refs_get GNode.refs_set Term.length_enc Term.ok_enc Term.all_get Term.all_set Term.var_get Term.var_set Term.n_get Term.n_set Env.length_enc Env.ok_enc Env.all_get Env.all_set Env.val_get Env.val_set Env.set_get Env.set_set
attribute [local go_sem] size_put size_ext blk_put free_put blk_alloc free_alloc blk_drew free_drew blk_ext free_ext lookOr_some putOr_some segAt_some cellAt_some storeIn_some put_put put_alloc_new length_arr ok_arr_u8 ok_arr_u32 ok_arr_u64 ok_arr_i64 ok_arr_sl cellsV_agg cellsV_int cellsV_bool cellsV_string cellsV_pointer cellsV_slice cellsV_sl ok_int ok_bool ok_string ok_pointer ok_slice ok_sl toList_arr seg_arr set_arr nth_splice nth_splice0 seg_splice seg_splice0 splice_splice splice_splice0 length_splice_if
attribute [local go_sem ↓] execOp_box
attribute [local go_sem] box_run nth_arr_u8 put_arr_u8 blk_drewN free_drewN put_drewN blk_raw free_raw
def nd1T (W1 : World) (bp bst b7 b10 b12 : Nat) (i : Nat) (ba : Option Addr) (bn bc vl : Nat) (N nms : List (List UInt8)) (vs : List Int) (tot : Option (List Int)) (f : Nat → Value) (V : World) : Prop := f 0 = .pointer (some ⟨bp, 2, none⟩) ∧ f 1 = .pointer (some ⟨bst, 0, none⟩) ∧ f 3 = .int .i64 (i : Nat) ∧ f 4 = .slice ba bn bc ∧ f 7 = .pointer (some ⟨b7, 0, none⟩) ∧ f 10 = .pointer (some ⟨b10, 0, none⟩) ∧ f 12 = .pointer (some ⟨b12, 0, none⟩) ∧ ∃ (k : Nat) (a : Option Addr) (c : Nat), k ≤ vl ∧ f 13 = .slice a k c ∧ f 14 = .int .i64 (k : Nat) ∧ Hid (∃ acc, OutG encZ 1 212 W1 V a k c acc ∧ nvF N nms (vs.drop k) acc = tot)
def nd2T (W1 : World) (bp bst b10 b15 : Nat) (pr : Int) (va : Option Addr) (vn vc : Nat) (vals : List Int) (f : Nat → Value) (V : World) : Prop := f 0 = .pointer (some ⟨bp, 2, none⟩) ∧ f 1 = .pointer (some ⟨bst, 0, none⟩) ∧ f 10 = .pointer (some ⟨b10, 0, none⟩) ∧ f 13 = .slice va vn vc ∧ f 15 = .pointer (some ⟨b15, 0, none⟩) ∧ ∃ k : Nat, k ≤ vn ∧ f 16 = .int .i64 (k : Nat) ∧ Hid (W1.Extends V ∧ blk V b15 = some (Fact.enc ⟨pr, mkT (fun c => vals.getD c 0) k⟩) ∧ free V b15 = true)
def nd3T (W1 : World) (bp bst b10 b12 b17 : Nat) (i : Nat) (ba : Option Addr) (bn bc : Nat) (va : Option Addr) (vn vc bl : Nat) (RE : List Value) (R : List (List Tup)) (vals refs : List Int) (bef : List Fact) (r : PR) (tot : Int × Nat) (f : Nat → Value) (V : World) : Prop := f 0 = .pointer (some ⟨bp, 2, none⟩) ∧ f 1 = .pointer (some ⟨bst, 0, none⟩) ∧ f 3 = .int .i64 (i : Nat) ∧ f 4 = .slice ba bn bc ∧ f 10 = .pointer (some ⟨b10, 0, none⟩) ∧ f 12 = .pointer (some ⟨b12, 0, none⟩) ∧ f 13 = .slice va vn vc ∧ f 17 = .pointer (some ⟨b17, 0, none⟩) ∧ ∃ (k u : Nat), k ≤ bl ∧ u ≤ k ∧ f 18 = .int .i64 (u : Nat) ∧ f 19 = .int .i64 (k : Nat) ∧ Hid (W1.Extends V ∧ blk V b17 = some RE ∧ nbF R i vals refs bef (r.body.drop k) u = tot)
attribute [local go_sem ↓] execOp_build execOp_bslice execOp_neq224
attribute [local go_sem] build224 build224z bslice248 neq224
set_option maxRecDepth 40000 in
set_option maxHeartbeats 8000000 in
theorem nodeT_any {B : Nat} {O : Own} {W : World} {g bst : Nat} {N : List (List UInt8)} {A : List Int} {R : List (List Tup)} (hS : Sto B O W g bst N A R) (hN : N.length ≤ 256) {bp : Nat} {p : PP} (hp : ProgT W bp p) (hok : CkOk p R) (x : Cert) (q : CC) (hC : CertC W x q) (hq1 : q.1.length ≤ 70000) (hq2 : q.2.length ≤ 256) (i : Nat) (d : CNode) (hd : q.2[i]? = some d) (hnd : NdOk d) (ba : Option Addr) (bn bc : Nat) (bef : List Fact) (hB : Rw Fact.enc 5 W ba bn bef) (hbn : bn = i) : Calls Tryz.prog 150 #[.pointer (some ⟨bp, 2, none⟩), .pointer (some ⟨bst, 0, none⟩), .agg x.enc.toArray, .int .i64 (i : Nat), .slice ba bn bc] W fun e V => e = .returned (.tuple #[.agg (ndF p N R q.1 i d bef).2.enc.toArray, .int .i64 (ndF p N R q.1 i d bef).1]) ∧ W.Extends V := by
  obtain ⟨Q, hQ⟩ : ∃ Q : Ending → World → Prop, Q = fun e V => e = .returned (.tuple #[.agg (ndF p N R q.1 i d bef).2.enc.toArray, .int .i64 (ndF p N R q.1 i d bef).1]) ∧ W.Extends V := ⟨_, rfl⟩
  rw [← hQ]
  have HQ := hid_of hQ
  have HS := hid_of hS
  have HPC := hid_of hp
  have HOK := hid_of hok
  have HND := hid_of hnd
  have HB := hid_of hB
  have HBN := hid_of hbn
  obtain ⟨Gs, hG1, hG2⟩ := hC.2
  have HNM := hid_of hC.1
  obtain ⟨gd, hgd⟩ : ∃ gd, Gs[i]? = some gd := ⟨_, List.getElem?_eq_getElem (by rw [hG2.1]; exact (List.getElem?_eq_some_iff.1 hd).1)⟩
  obtain ⟨n1, n2, n3, n4⟩ := hG2.2 i gd d hgd hd
  obtain ⟨bG, CG, e1, e2, e3, e4⟩ := hG1.2 i gd hgd
  have hil : i < Gs.length := (List.getElem?_eq_some_iff.1 hgd).1
  have hGl := hG1.1
  have hq2' : Gs.length ≤ 256 := by rw [hG2.1]; exact hq2
  have x0 : nth x.enc 0 = some (.slice x.names.a q.1.length x.names.cap) := by rw [Cert.names_get, hC.1.1]; rfl
  have x1 : nth x.enc 1 = some (.slice (some ⟨bG, 0, none⟩) Gs.length x.nodes.cap) := by rw [Cert.nodes_get, ← e1, hGl]; rfl
  have xl : x.enc.length = 2 := Cert.length_enc x
  have y0 : nth gd.enc 0 = some (.int .i64 d.rule) := by rw [GNode.rule_get, n1]
  have y1 : nth gd.enc 1 = some (.int .i64 d.pred) := by rw [GNode.pred_get, n2]
  have y2 : nth gd.enc 2 = some (.slice gd.vals.a d.vals.length gd.vals.cap) := by rw [GNode.vals_get, n3.1]; rfl
  have y3 : nth gd.enc 3 = some (.slice gd.refs.a d.refs.length gd.refs.cap) := by rw [GNode.refs_get, n4.1]; rfl
  have yl : gd.enc.length = 4 := GNode.length_enc gd
  have yo : okCells 4 gd.enc = true := GNode.ok_enc gd
  have ys : splice GNode.zero.enc 0 gd.enc = gd.enc := GNode.all_set _ _
  have HV3 := hid_of n3
  have HV4 := hid_of n4
  obtain ⟨XE, hXE⟩ : ∃ XE, XE = x.enc := ⟨_, rfl⟩
  obtain ⟨NE, hNE⟩ : ∃ NE, NE = gd.enc := ⟨_, rfl⟩
  obtain ⟨nn, hnn⟩ : ∃ nn, nn = q.1.length := ⟨_, rfl⟩
  obtain ⟨vl, hvl⟩ : ∃ vl, vl = d.vals.length := ⟨_, rfl⟩
  obtain ⟨rn, hrn⟩ : ∃ rn, rn = d.refs.length := ⟨_, rfl⟩
  obtain ⟨gl, hgl⟩ : ∃ gl, gl = Gs.length := ⟨_, rfl⟩
  rw [← hXE] at x0 x1 xl ⊢
  rw [← hNE] at y0 y1 y2 y3 yl yo ys e4
  rw [← hnn] at x0
  rw [← hvl] at y2
  rw [← hrn] at y3
  rw [← hgl] at x1 hil hq2' hGl
  have hvl255 : vl ≤ 255 := by rw [hvl]; exact hnd.vl
  have hrn255 : rn ≤ 255 := by rw [hrn]; exact hnd.rl
  have hnn7 : nn ≤ 70000 := by rw [hnn]; exact hq1
  have HNN := hid_of hnn
  have HVL := hid_of hvl
  have HRN := hid_of hrn
  have i0 : (0 : Int) ≤ (i : Int) := by omega
  have i1 : (i : Int) < (gl : Int) := by omega
  have i2 : ((i : Int)).toNat = i := by omega
  have ge : i * 4 + 4 ≤ CG.length := by
    have h5 : (i + 1) * 4 ≤ gl * 4 := Nat.mul_le_mul_right _ (by omega)
    have h6 := e3
    rw [← hGl] at h6
    omega
  have hbG : ∀ V, W.Extends V → blk V bG = some CG := fun V hx => (hx.blk (blk_lt e2)).trans e2
  have HBG := hid_of hbG
  have xl0 : 0 < XE.length := by omega
  have xl1 : 1 < XE.length := by omega
  have yl0 : 0 < NE.length := by omega
  have yl1 : 1 < NE.length := by omega
  have yl2 : 2 < NE.length := by omega
  have yl3 : 3 < NE.length := by omega
  have hbG' := hbG ((W.alloc (.cells XE.toArray 179)).alloc (.cells Fact.zero.enc.toArray 272)) (extends_alloc (extends_alloc (ext_Ext (Ext.refl _)) _) _)
  have nbG : ¬ bG = W.heap.size := by have := blk_lt e2; omega
  have nbG1 : ¬ bG = W.heap.size + 1 := by have := blk_lt e2; omega
  have e2' := e2
  clear hQ hS hp hok hC hd hnd hB hbn hG1 hG2 hgd n1 n2 n3 n4 e1 e3 hXE hNE hnn hvl hrn hgl hGl xl yl hbG e2 hq1 hq2
  go_enter Tryz.func150, Tryz.ntmps150
  go_upto_region 4 with fail
  refine wp_world (fun V => W.Extends V ∧ ndK V W.heap.size (W.heap.size + 1) (W.heap.size + 2) XE NE) ?_ ?_
  · refine ⟨extends_put (extends_alloc (extends_alloc (extends_alloc (ext_Ext (Ext.refl _)) _) _) _) (by omega) _, ?_, ?_, ?_, ?_⟩
    · rw [blk_put, if_neg (by omega), blk_alloc, if_neg (by simp only [World.size_alloc]; omega), blk_alloc, if_neg (by simp only [World.size_alloc]; omega), blk_alloc, if_pos rfl]
    · rw [blk_put, if_neg (by omega), blk_alloc, if_neg (by simp only [World.size_alloc]; omega), blk_alloc, if_pos (by simp only [World.size_alloc])]
    · rw [free_put, free_alloc, if_neg (by simp only [World.size_alloc]; omega), free_alloc, if_pos (by simp only [World.size_alloc])]
    · rw [blk_put, if_pos (by omega), blk_alloc, if_pos (by simp only [World.size_alloc])]; rfl
  rintro W1 ⟨hxW, hK1⟩
  obtain ⟨b12, e12⟩ : ∃ b12, b12 = W.heap.size + 2 := ⟨_, rfl⟩
  obtain ⟨b10, e10⟩ : ∃ b10, b10 = W.heap.size + 1 := ⟨_, rfl⟩
  obtain ⟨b7, e7⟩ : ∃ b7, b7 = W.heap.size := ⟨_, rfl⟩
  rw [← e12, ← e10, ← e7] at hK1
  rw [show W.heap.size + 1 + 1 = b12 by omega, ← e10, ← e7]
  have hw10 : W.heap.size ≤ b10 := by omega
  have HXW := hid_of hxW
  have HK1 := hid_of hK1
  have HRET : Hid (∀ (V : World) (cd : Int) (f : Fact), W1.Extends V → ndF p N R q.1 i d bef = (cd, f) → Q (.returned (.tuple #[.agg f.enc.toArray, .int .i64 cd])) (put V b10 f.enc)) := by
    intro V cd f h1 h2
    rw [HQ.out, h2]
    exact ⟨rfl, extends_put (HXW.out.trans h1) hw10 _⟩
  obtain ⟨tot, htot⟩ : ∃ tot, tot = nvF N q.1 d.vals [] := ⟨_, rfl⟩
  have HTOT : Hid (ndF p N R q.1 i d bef = ndG p R i d bef tot) := by rw [htot]; exact ndF_eq _ _ _ _ _ _ _
  have HI0 : Hid (∃ acc, OutG encZ 1 212 W1 W1 none 0 0 acc ∧ nvF N q.1 (d.vals.drop 0) acc = tot) := ⟨[], OutG.nil (ext_Ext (Ext.refl _)), htot.symm⟩
  clear e12 e10 e7 hxW hK1 htot hbG' nbG nbG1 e2' e4 ge yo ys HQ i1
  refine wp_loop_f 218 (nd1T W1 bp bst b7 b10 b12 i ba bn bc vl N q.1 d.vals tot) (fun f _ => vl - (intOf (f 14)).toNat) rfl ⟨rfl, rfl, rfl, rfl, rfl, rfl, rfl, 0, none, 0, by omega, rfl, rfl, HI0⟩ ?_
  clear HI0
  intro F V hrel
  obtain ⟨f0, f1, f3, f4, f7, f10, f12, k, va, vc, hk, f13, f14, HI⟩ := hrel
  have H14 := hid_of f14
  rw [frame218n, f0, f1, f3, f4, f7, f10, f12, f13, f14]
  clear f0 f1 f3 f4 f7 f10 f12 f13 f14
  obtain ⟨acc, hO, hgo⟩ := HI.out
  obtain ⟨hb7, hb10, hf10, hb12⟩ := HK1.out.ext hO.2.1
  have HO := hid_of hO
  by_cases hkv : k < vl
  · have hkv' : (k : Int) < (vl : Int) := by omega
    have k0 : (0 : Int) ≤ (k : Int) := by omega
    have k2 : ((k : Int)).toNat = k := by omega
    obtain ⟨v, hv⟩ : ∃ v, d.vals[k]? = some v := ⟨_, List.getElem?_eq_getElem (by rw [← HVL.out]; exact hkv)⟩
    have hv0 := HND.out.vals v (List.mem_of_getElem? hv)
    obtain ⟨bv, Cv, s1, s2w, s3, s4, s5⟩ := rw_cell HV3.out hv (v := .int .i64 v) rfl
    have s2 : blk V bv = some Cv := ((HXW.out.trans hO.2.1).blk (blk_lt s2w)).trans s2w
    have HS2W := hid_of s2w
    rw [s1] at y2
    have sm : k < Cv.length := by omega
    have hdr : d.vals.drop k = v :: d.vals.drop (k + 1) := by
      obtain ⟨hlt, he⟩ := List.getElem?_eq_some_iff.1 hv
      rw [← he]; exact List.drop_eq_getElem_cons hlt
    have hgo2 : (if (nn : Int) ≤ v then none else nvF N q.1 (d.vals.drop (k + 1)) (acc ++ [lookF N (q.1.getD v.toNat [])])) = tot := by
      rw [hdr] at hgo
      rw [HNN.out]; exact hgo
    have HGO := hid_of hgo2
    clear HI hO hgo hv s1 s3 s4 hdr hgo2 s2w
    by_cases hvn : (nn : Int) ≤ v
    · have HP : Hid (∀ j, Q (.returned (.tuple #[.agg Fact.zero.enc.toArray, .int .i64 36])) (put (V.drewN j) b10 Fact.zero.enc)) := fun j => HRET.out _ 36 Fact.zero (extends_drewN HO.out.2.1 j) (by
        have h9 := HGO.out
        rw [if_pos hvn] at h9
        rw [HTOT.out, ← h9]; rfl)
      go_upto_region 6 with fail
      go_quiet (fail)
      go_wp2_with fail
      refine ret_cell_tmp (C := Fact.zero.enc) rfl rfl rfl ?_ (by kernel_rfl) (by rw [Fact.length_enc]; kernel_rfl) rfl (HP.out _)
      first | (rw [blk_put, if_pos rfl, blk_drewN, hb10]; rfl) | (simp only [blk_put, if_true, blk_drewN, hb10, Option.map_some]; try rfl)
    have hvn' : ¬ (nn : Int) ≤ v := hvn
    obtain ⟨y, hy⟩ : ∃ y : Nat, v = (y : Int) := ⟨v.toNat, by omega⟩
    subst hy
    have hyn : y < q.1.length := by rw [← HNN.out]; omega
    obtain ⟨nm, hnm⟩ : ∃ nm, q.1[y]? = some nm := ⟨_, List.getElem?_eq_getElem hyn⟩
    obtain ⟨bs, Cs, u1, u2w, u3, u4⟩ := str_at HNM.out hnm
    have HU2W := hid_of u2w
    have u2 : blk V bs = some Cs := ((HXW.out.trans HO.out.2.1).blk (blk_lt u2w)).trans u2w
    rw [u1] at x0
    have yy0 : (0 : Int) ≤ (y : Int) := by omega
    have yy1 : (y : Int) < (nn : Int) := by omega
    have yy2 : ((y : Int)).toNat = y := by omega
    have HGE : Hid (nvF N q.1 (d.vals.drop (k + 1)) (acc ++ [lookF N nm]) = tot) := by
      have h9 := HGO.out
      rw [if_neg hvn, yy2, List.getD_eq_getElem?_getD, hnm] at h9
      exact h9
    obtain ⟨lv, hlv⟩ : ∃ lv, lv = lookF N nm := ⟨_, rfl⟩
    rw [← hlv] at HGE
    have HSk : Hid (∀ V', W1.Extends V' → blk V' b12 = some NE ∧ blk V' b7 = some XE ∧ blk V' bv = some Cv ∧ blk V' bs = some Cs) := fun V' hx => ⟨(HK1.out.ext hx).2.2.2, (HK1.out.ext hx).1, ((HXW.out.trans hx).blk (blk_lt HS2W.out)).trans HS2W.out, ((HXW.out.trans hx).blk (blk_lt HU2W.out)).trans HU2W.out⟩
    have HLK : Hid (∀ V', V.Extends V' → Calls Tryz.prog 142 #[.pointer (some ⟨bst, 0, none⟩), .string ⟨nm.toArray⟩] V' fun e V2 => e = .returned (.int .i64 lv) ∧ V2 = V') := fun V' hx => by
      rw [hlv]
      exact lookup_any (HS.out.ext (HXW.out.trans (HO.out.2.1.trans hx))) (by omega) nm
    clear hlv hnm u1 HGO u2w
    go_upto_region 6 with fail
    go_quiet (fail)
    go_upto_region 8 with fail
    refine wp_world (fun V' => V.Extends V') (extends_drewN (ext_Ext (Ext.refl _)) _) ?_
    intro V6 hx6
    have hO6 := HO.out.ext hx6
    have hlk6 := HLK.out V6.drew (hx6.trans (extd V6))
    obtain ⟨a', c', V9, hrun, ho', -⟩ := (hO6.ext (extd V6)).app el248 lv (by have := HO.out.2.2; omega) (encZ lv).toArray rfl 1
    have HI' : Hid (∃ acc, OutG encZ 1 212 W1 V9 a' (k + 1) c' acc ∧ nvF N q.1 (d.vals.drop (k + 1)) acc = tot) := ⟨_, ho', HGE.out⟩
    have hSd := HSk.out V6.drew ((HO.out.2.1.trans hx6).trans (extd V6))
    have hSa : ∀ X, blk (V6.drew.alloc X) b12 = some NE ∧ blk (V6.drew.alloc X) b7 = some XE ∧ blk (V6.drew.alloc X) bv = some Cv ∧ blk (V6.drew.alloc X) bs = some Cs := fun X => HSk.out _ ((HO.out.2.1.trans hx6).trans ((extd V6).trans (extends_alloc (ext_Ext (Ext.refl _)) _)))
    have hSe := HSk.out V9 ho'.2.1
    clear hO6 ho' hb7 hb10 hf10 hb12 s2 u2 HSk HLK HO hx6
    refine wp_region_held_drew (S := fun W' => blk W' b12 = some NE ∧ blk W' b7 = some XE ∧ blk W' bv = some Cv ∧ blk W' bs = some Cs) (by kernel_rfl) hSd (fun hHeld => ?_)
    refine wpAnyH_take (i := 0) (oi := ⟨_, _, _, _, _, _⟩) (v := ?_) rfl (by kernel_rfl) (by kernel_rfl) (by kernel_rfl) (fun _ _ _ h => h) (Or.inl ⟨by rfl, ?_⟩) (by assumption) ?_
    rotate_left 1
    · intro W' hSw
      obtain ⟨hS1, hS2, hS3, hS4⟩ := hSw
      go_simp
      try with_reducible rfl
    try simp only [Act.put, List.setIfInBounds_toArray, List.set_cons_zero, List.set_cons_succ]
    refine wpAnyH_take (i := 1) (oi := ⟨_, _, _, _, _, _⟩) (v := ?_) rfl (by kernel_rfl) (by kernel_rfl) (by kernel_rfl) (fun _ _ _ h => h) (Or.inl ⟨by rfl, ?_⟩) (by assumption) ?_
    rotate_left 1
    · intro W' hSw
      obtain ⟨hS1, hS2, hS3, hS4⟩ := hSw
      go_simp
      try with_reducible rfl
    try simp only [Act.put, List.setIfInBounds_toArray, List.set_cons_zero, List.set_cons_succ]
    refine wpAnyH_take (i := 2) (oi := ⟨_, _, _, _, _, _⟩) (v := ?_) rfl (by kernel_rfl) (by kernel_rfl) (by kernel_rfl) (fun _ _ _ h => h) (Or.inl ⟨by rfl, ?_⟩) (by assumption) ?_
    rotate_left 1
    · intro W' hSw
      obtain ⟨hS1, hS2, hS3, hS4⟩ := hSw
      go_simp
      try with_reducible rfl
    try simp only [Act.put, List.setIfInBounds_toArray, List.set_cons_zero, List.set_cons_succ]
    refine wpAnyH_take (i := 3) (oi := ⟨_, _, _, _, _, _⟩) (v := ?_) rfl (by kernel_rfl) (by kernel_rfl) (by kernel_rfl) (fun _ _ _ h => h) (Or.inl ⟨by rfl, ?_⟩) (by assumption) ?_
    rotate_left 1
    · intro W' hSw
      obtain ⟨hS1, hS2, hS3, hS4⟩ := hSw
      go_simp
      try with_reducible rfl
    try simp only [Act.put, List.setIfInBounds_toArray, List.set_cons_zero, List.set_cons_succ]
    refine wpAnyH_take (i := 4) (oi := ⟨_, _, _, _, _, _⟩) (v := ?_) rfl (by kernel_rfl) (by kernel_rfl) (by kernel_rfl) (fun _ _ _ h => h) (Or.inl ⟨by rfl, ?_⟩) (by assumption) ?_
    rotate_left 1
    · intro W' hSw
      obtain ⟨hS1, hS2, hS3, hS4⟩ := hSw
      go_simp
      try with_reducible rfl
    try simp only [Act.put, List.setIfInBounds_toArray, List.set_cons_zero, List.set_cons_succ]
    refine wpAnyH_take (i := 5) (oi := ⟨_, _, _, _, _, _⟩) (v := ?_) rfl (by kernel_rfl) (by kernel_rfl) (by kernel_rfl) (fun _ _ _ h => h) (Or.inl ⟨by rfl, ?_⟩) (by assumption) ?_
    rotate_left 1
    · intro W' hSw
      obtain ⟨hS1, hS2, hS3, hS4⟩ := hSw
      go_simp
      try with_reducible rfl
    try simp only [Act.put, List.setIfInBounds_toArray, List.set_cons_zero, List.set_cons_succ]
    refine wpAnyH_take (i := 6) (oi := ⟨_, _, _, _, _, _⟩) (v := ?_) rfl (by kernel_rfl) (by kernel_rfl) (by kernel_rfl) (fun _ _ _ h => h) (Or.inl ⟨by rfl, ?_⟩) (by assumption) ?_
    rotate_left 1
    · intro W' hSw
      obtain ⟨hS1, hS2, hS3, hS4⟩ := hSw
      go_simp
      try with_reducible rfl
    try simp only [Act.put, List.setIfInBounds_toArray, List.set_cons_zero, List.set_cons_succ]
    refine wpAnyH_take (i := 7) (oi := ⟨_, _, _, _, _, _⟩) (v := ?_) rfl (by kernel_rfl) (by kernel_rfl) (by kernel_rfl) (fun _ _ _ h => h) (Or.inl ⟨by rfl, ?_⟩) (by assumption) ?_
    rotate_left 1
    · intro W' hSw
      obtain ⟨hS1, hS2, hS3, hS4⟩ := hSw
      go_simp
      try with_reducible rfl
    try simp only [Act.put, List.setIfInBounds_toArray, List.set_cons_zero, List.set_cons_succ]
    refine wpAnyH_take (i := 8) (oi := ⟨_, _, _, _, _, _⟩) (v := ?_) rfl (by kernel_rfl) (by kernel_rfl) (by kernel_rfl) (fun _ _ _ h => h) (Or.inl ⟨by rfl, ?_⟩) (by assumption) ?_
    rotate_left 1
    · intro W' hSw
      obtain ⟨hS1, hS2, hS3, hS4⟩ := hSw
      go_simp
      try with_reducible rfl
    try simp only [Act.put, List.setIfInBounds_toArray, List.set_cons_zero, List.set_cons_succ]
    refine wpAnyH_take (i := 9) (oi := ⟨_, _, _, _, _, _⟩) (v := ?_) rfl (by kernel_rfl) (by kernel_rfl) (by kernel_rfl) (fun _ _ _ h => h) (Or.inl ⟨by rfl, ?_⟩) (by assumption) ?_
    rotate_left 1
    · intro W' hSw
      obtain ⟨hS1, hS2, hS3, hS4⟩ := hSw
      go_simp
      try with_reducible rfl
    try simp only [Act.put, List.setIfInBounds_toArray, List.set_cons_zero, List.set_cons_succ]
    refine wpAnyH_take (i := 10) (oi := ⟨_, _, _, _, _, _⟩) (v := ?_) rfl (by kernel_rfl) (by kernel_rfl) (by kernel_rfl) (fun _ _ _ h => h) (Or.inl ⟨by rfl, ?_⟩) (by assumption) ?_
    rotate_left 1
    · intro W' hSw
      obtain ⟨hS1, hS2, hS3, hS4⟩ := hSw
      go_simp
      try with_reducible rfl
    try simp only [Act.put, List.setIfInBounds_toArray, List.set_cons_zero, List.set_cons_succ]
    refine wpAnyH_ready (rs := [11]) (by kernel_rfl) (by simp) ?_
    refine AllReadyH.cons (o := ⟨_, _, _, _, _, _⟩) rfl (fun K' hK => ?_) AllReadyH.nil
    go_simp
    refine hlk6.mono ?_
    rintro en V7 ⟨rfl, e9⟩
    replace e9 := e9.symm
    subst e9
    dsimp only
    refine hK.out _ _ hSd (fun hHeld => ?_)
    clear hK K'
    try simp only [Act.put, List.setIfInBounds_toArray, List.set_cons_zero, List.set_cons_succ]
    refine wpAnyH_ready (rs := [12]) (by kernel_rfl) (by simp) ?_
    refine AllReadyH.cons (o := ⟨_, _, _, _, _, _⟩) rfl (fun K' hK => ?_) AllReadyH.nil
    go_simp
    refine hK.out _ _ (hSa _) (fun hHeld => ?_)
    clear hK K'
    try simp only [Act.put, List.setIfInBounds_toArray, List.set_cons_zero, List.set_cons_succ]
    refine wpAnyH_ready (rs := [13]) (by kernel_rfl) (by simp) ?_
    refine AllReadyH.cons (o := ⟨_, _, _, _, _, _⟩) rfl (fun K' hK => ?_) AllReadyH.nil
    refine wp_append_run _ _ 293 rfl _ _ _ _ rfl rfl hrun ?_
    refine hK.out _ _ hSe (fun hHeld => ?_)
    clear hK K'
    try simp only [Act.put, List.setIfInBounds_toArray, List.set_cons_zero, List.set_cons_succ]
    refine wpAnyH_take (i := 14) (oi := ⟨_, _, _, _, _, _⟩) (v := ?_) rfl (by kernel_rfl) (by kernel_rfl) (by kernel_rfl) (fun _ _ _ h => h) (Or.inl ⟨by rfl, ?_⟩) (by assumption) ?_
    rotate_left 1
    · intro W' hSw
      obtain ⟨hS1, hS2, hS3, hS4⟩ := hSw
      go_simp
      try with_reducible rfl
    try simp only [Act.put, List.setIfInBounds_toArray, List.set_cons_zero, List.set_cons_succ]
    refine wpAnyH_done (by kernel_rfl) ?_ _
    go_wp2_with fail
    refine ⟨rfl, rfl, ⟨rfl, rfl, rfl, rfl, rfl, rfl, rfl, k + 1, _, _, by omega, rfl, ?_, HI'⟩, ?_⟩
    · show Value.int .i64 _ = _
      go_num
    · show vl - (intOf (Value.int .i64 _)).toNat < vl - (intOf (F 14)).toNat
      rw [H14.out]
      simp [intOf]; omega
  have hkv' : ¬ (k : Int) < (vl : Int) := by omega
  obtain rfl : k = vl := by omega
  have htt : tot = some acc := by
    rw [← hgo, List.drop_of_length_le (by rw [← HVL.out]; omega)]; rfl
  have HVR : Hid (∀ V', W1.Extends V' → V.Extends V' → Rw encZ 1 V' va k acc) := fun V' _ hx => (HO.out.rw el248).ext' hx
  have HND2 : Hid (ndF p N R q.1 i d bef = if d.rule < 0 then nlF p R d acc else nrF p R i d acc bef) := by
    show _ = _
    rw [HTOT.out, htt]; rfl
  have hal : acc.length = k := HO.out.2.2.symm
  have HAL := hid_of hal
  have HX1 : Hid (W1.Extends V) := hO.2.1
  obtain ⟨rl, hrl⟩ : ∃ rl, rl = d.rule := ⟨_, rfl⟩
  rw [← hrl] at y0 HND2
  have HRL := hid_of hrl
  clear HI hO hgo htt hal H14 HTOT hrl
  by_cases hneg : rl < 0
  · have HND3 : Hid (ndF p N R q.1 i d bef = nlF p R d acc) := by
      show _ = _
      rw [HND2.out, if_pos hneg]
    clear HND2
    obtain ⟨Ce, pa, pc, da, dc, ra, rc, z1, z2, z3, z4, z5, z6, z7, z8, z9⟩ := (HPC.out.ext (HXW.out.trans HX1.out)).cells
    have hpr0 := HND.out.pred
    obtain ⟨y, hy⟩ : ∃ y : Nat, d.pred = (y : Int) := ⟨d.pred.toNat, by omega⟩
    rw [hy] at y1
    have HY := hid_of hy
    obtain ⟨nd, hnd⟩ : ∃ nd, nd = p.preds.length := ⟨_, rfl⟩
    rw [← hnd] at z4
    have HNDL := hid_of hnd
    have l1 : 3 < Ce.length := by omega
    have HNL : Hid (nlF p R d acc = if (nd : Int) ≤ (y : Int) ∨ (pI p y).base = false then (37, Fact.zero) else if (k : Int) ≠ (pI p y).arity then (39, Fact.zero) else if mkT (fun c => acc.getD c 0) k ∉ rowsAt R y then (40, Fact.zero) else (0, ⟨(y : Int), mkT (fun c => acc.getD c 0) k⟩)) := by
      show _ = _
      unfold nlF
      rw [hy, Int.toNat_natCast, HAL.out, ← hnd]
    have HZ8 := hid_of z8
    clear z2 z3 z5 z6 z7 z8 z9 hpr0 hy hnd
    by_cases hyn : (nd : Int) ≤ (y : Int)
    · have HP : Hid (∀ j, Q (.returned (.tuple #[.agg Fact.zero.enc.toArray, .int .i64 37])) (put (V.drewN j) b10 Fact.zero.enc)) := fun j => HRET.out _ 37 Fact.zero (extends_drewN HX1.out j) (by rw [HND3.out, HNL.out, if_pos (.inl hyn)])
      go_upto_region 10 with fail
      go_quiet (fail)
      go_wp2_with fail
      refine ret_cell_tmp (C := Fact.zero.enc) rfl rfl rfl ?_ (by kernel_rfl) (by rw [Fact.length_enc]; kernel_rfl) rfl (HP.out _)
      first | (rw [blk_put, if_pos rfl, blk_drewN, hb10]; rfl) | (simp only [blk_put, if_true, blk_drewN, hb10, Option.map_some]; try rfl)
    have hyn' : ¬ (nd : Int) ≤ (y : Int) := hyn
    have yq0 : (0 : Int) ≤ (y : Int) := by omega
    have yq1 : (y : Int) < (nd : Int) := by omega
    have yq2 : ((y : Int)).toNat = y := by omega
    have hyp : y < p.preds.length := by rw [← HNDL.out]; omega
    obtain ⟨bd, Cd, d1, d2, d3, d4, d5, d6, d7⟩ := pred_at HZ8.out (pI_at (p := p) (q := y) hyp)
    rw [d1] at z4
    have dm0 : y * 3 < Cd.length := by omega
    have dm1 : y * 3 + 1 < Cd.length := by omega
    have har := HOK.out.ar _ (List.mem_of_getElem? (pI_at hyp))
    obtain ⟨bse, hbse⟩ : ∃ bse, bse = (pI p y).base := ⟨_, rfl⟩
    obtain ⟨ar, har'⟩ : ∃ ar, ar = (pI p y).arity := ⟨_, rfl⟩
    rw [← hbse] at d5 HNL
    rw [← har'] at d4 har HNL
    have hRy : ∃ L, R[y]? = some L := ⟨_, List.getElem?_eq_getElem (by rw [HOK.out.rn]; exact hyp)⟩
    obtain ⟨L, hL⟩ := hRy
    have HL := hid_of hL
    clear d1 d3 d6 d7 hbse har' hL hyp
    cases bse with
    | false =>
      have HP : Hid (∀ j, Q (.returned (.tuple #[.agg Fact.zero.enc.toArray, .int .i64 37])) (put (V.drewN j) b10 Fact.zero.enc)) := fun j => HRET.out _ 37 Fact.zero (extends_drewN HX1.out j) (by rw [HND3.out, HNL.out, if_pos (.inr rfl)])
      go_upto_region 10 with fail
      go_quiet (fail)
      go_wp2_with fail
      refine ret_cell_tmp (C := Fact.zero.enc) rfl rfl rfl ?_ (by kernel_rfl) (by rw [Fact.length_enc]; kernel_rfl) rfl (HP.out _)
      first | (rw [blk_put, if_pos rfl, blk_drewN, hb10]; rfl) | (simp only [blk_put, if_true, blk_drewN, hb10, Option.map_some]; try rfl)
    | true =>
    have HNL2 : Hid (nlF p R d acc = if (k : Int) ≠ ar then (39, Fact.zero) else if mkT (fun c => acc.getD c 0) k ∉ rowsAt R y then (40, Fact.zero) else (0, ⟨(y : Int), mkT (fun c => acc.getD c 0) k⟩)) := by
      show _ = _
      rw [HNL.out, if_neg (fun h => h.elim hyn (fun e => by cases e))]
    clear HNL
    go_upto_region 10 with fail
    go_quiet (fail)
    go_upto_region 12 with fail
    refine wp_world (fun V' => V.Extends V') (extends_drewN (ext_Ext (Ext.refl _)) _) ?_
    intro V4 hx4
    have zb4 : blk V4 bp = some Ce := (hx4.blk (blk_lt z1)).trans z1
    have db4 : blk V4 bd = some Cd := (hx4.blk (blk_lt d2)).trans d2
    obtain ⟨kb7, kb10, kf10, kb12⟩ := HK1.out.ext (HX1.out.trans hx4)
    have HX4 := hid_of hx4
    clear hb7 hb10 hf10 hb12 hx4
    by_cases hkar : (k : Int) = ar
    rotate_left 1
    · have hka' : ((k : Int) != ar) = true := by simp [hkar]
      have HP : Hid (∀ j, Q (.returned (.tuple #[.agg Fact.zero.enc.toArray, .int .i64 39])) (put (V4.drewN j) b10 Fact.zero.enc)) := fun j => HRET.out _ 39 Fact.zero (extends_drewN (HX1.out.trans HX4.out) j) (by rw [HND3.out, HNL2.out, if_pos hkar])
      have hb10 := kb10
      clear hkar
      go_quiet (fail)
      go_wp2_with fail
      refine ret_cell_tmp (C := Fact.zero.enc) rfl rfl rfl ?_ (by kernel_rfl) (by rw [Fact.length_enc]; kernel_rfl) rfl (HP.out _)
      first | (rw [blk_put, if_pos rfl, blk_drewN, hb10]; rfl) | (simp only [blk_put, if_true, blk_drewN, hb10, Option.map_some]; try rfl)
    have hka' : ((k : Int) != ar) = false := by simp [hkar]
    have hk4 : k ≤ 4 := by omega
    have HNL3 : Hid (nlF p R d acc = if mkT (fun c => acc.getD c 0) k ∉ rowsAt R y then (40, Fact.zero) else (0, ⟨(y : Int), mkT (fun c => acc.getD c 0) k⟩)) := by
      show _ = _
      rw [HNL2.out, if_neg (fun e => e hkar)]
    clear HNL2 hkar
    go_quiet (fail)
    have kb12' : blk (V4.drewN nq) b12 = some NE := kb12
    go_upto_region 16 with fail
    refine wp_world (fun V' => V.Extends V' ∧ W1.Extends V' ∧ blk V' V4.heap.size = some (Fact.enc ⟨(y : Int), mkT (fun c => acc.getD c 0) 0⟩) ∧ free V' V4.heap.size = true) ?_ ?_
    · have hx5 : V.Extends (put ((V4.drewN nq).alloc (.cells Fact.zero.enc.toArray 272)) V4.heap.size (Fact.enc ⟨(y : Int), Vector.replicate 4 0⟩)) := extends_put (extends_alloc (extends_drewN HX4.out _) _) HX4.out.size _
      exact ⟨hx5, HX1.out.trans hx5, by rw [mkT_zero, blk_put, if_pos rfl, blk_alloc, if_pos (show V4.heap.size = (V4.drewN nq).heap.size from rfl)]; rfl, by rw [free_put, free_alloc, if_pos (show V4.heap.size = (V4.drewN nq).heap.size from rfl)]⟩
    rintro V5 ⟨hxV5, hx5, hb15, hf15⟩
    obtain ⟨b15, e15⟩ : ∃ b15, b15 = V4.heap.size := ⟨_, rfl⟩
    first | rw [← e15] at hb15 hf15 ⊢ | (rw [← e15] at hb15 hf15; rw [show (V4.drewN nq).heap.size = b15 from e15.symm])
    have HVW := hid_of (HVR.out V5 hx5 hxV5)
    have HW15 : Hid (V.heap.size ≤ b15) := by rw [e15]; exact HX4.out.size
    have HI0 : Hid (W1.Extends V5 ∧ blk V5 b15 = some (Fact.enc ⟨(y : Int), mkT (fun c => acc.getD c 0) 0⟩) ∧ free V5 b15 = true) := ⟨hx5, hb15, hf15⟩
    have HXV5 := hid_of hxV5
    clear e15 hxV5 hx5 hb15 hf15 zb4 db4 kb7 kb10 kf10 kb12 kb12' z1 d2 d4 d5 HZ8
    refine wp_loop_f 218 (nd2T V bp bst b10 b15 (y : Int) va k vc acc) (fun f _ => k - (intOf (f 16)).toNat) rfl ⟨rfl, rfl, rfl, rfl, rfl, 0, by omega, rfl, ⟨HXV5.out, HI0.out.2.1, HI0.out.2.2⟩⟩ ?_
    clear HI0 HXV5
    intro F2 V6 hrel
    obtain ⟨f0, f1, f10, f13, f15, c, hcl, f16, HJ⟩ := hrel
    have H16 := hid_of f16
    rw [frame218n, f0, f1, f10, f13, f15, f16]
    clear f0 f1 f10 f13 f15 f16
    obtain ⟨hxV6, hb15, hf15⟩ := HJ.out
    have hx6 : W1.Extends V6 := HX1.out.trans hxV6
    obtain ⟨kb7, kb10, kf10, kb12⟩ := HK1.out.ext hx6
    obtain ⟨FE, hFE⟩ : ∃ FE, FE = Fact.enc ⟨(y : Int), mkT (fun c => acc.getD c 0) c⟩ := ⟨_, rfl⟩
    have fl : FE.length = 5 := by rw [hFE]; exact Fact.length_enc _
    have fa : seg FE 0 5 = FE := by rw [hFE]; exact Fact.all_get _
    have fo : okCells 5 FE = true := by rw [hFE]; exact Fact.ok_enc _
    have fs : splice Fact.zero.enc 0 FE = FE := by rw [hFE]; exact Fact.all_set _ _
    have fp : nth FE 0 = some (.int .i64 (y : Int)) := by rw [hFE]; exact Fact.pred_get _
    have ft : seg FE 1 4 = arr i64v (mkT (fun c => acc.getD c 0) c) := by rw [hFE]; exact Fact.t_get _
    rw [← hFE] at hb15
    have HFE := hid_of hFE
    have fl5 : 0 + 5 ≤ FE.length := by omega
    have fl14 : 1 + 4 ≤ FE.length := by omega
    have fl0 : 0 < FE.length := by omega
    by_cases hck : c < k
    · have hck' : (c : Int) < (k : Int) := by omega
      have c0 : (0 : Int) ≤ (c : Int) := by omega
      have c2 : ((c : Int)).toNat = c := by omega
      have c4 : (c : Int) < 4 := by omega
      obtain ⟨z, hz⟩ : ∃ z, acc[c]? = some z := ⟨_, List.getElem?_eq_getElem (by rw [HAL.out]; exact hck)⟩
      obtain ⟨bv, Cv, s1, s2, s3, s4, s5⟩ := rw_cell (HVR.out V6 hx6 hxV6) hz (v := .int .i64 z) rfl
      subst s1
      have sm : c < Cv.length := by omega
      have f1c : 1 + c < FE.length := by omega
      have f1c' : 1 + c + 1 ≤ FE.length := by omega
      have HJ' : Hid (V.Extends (put V6 b15 (splice FE (1 + c) [.int .i64 z])) ∧ blk (put V6 b15 (splice FE (1 + c) [.int .i64 z])) b15 = some (Fact.enc ⟨(y : Int), mkT (fun c => acc.getD c 0) (c + 1)⟩) ∧ free (put V6 b15 (splice FE (1 + c) [.int .i64 z])) b15 = true) := by
        refine ⟨extends_put hxV6 HW15.out _, ?_, by rw [free_put]; exact hf15⟩
        rw [blk_put, if_pos rfl, hb15]
        show some (splice FE (1 + c) [.int .i64 z]) = _
        rw [HFE.out, fact_put _ _ (by omega) (by rw [List.getD_eq_getElem?_getD, hz]; rfl)]
      clear HJ hxV6 hx6 kb7 kb10 kf10 kb12 hFE hz s3 s4 fa fo fs fp ft
      go_wp2_with fail
      refine ⟨rfl, rfl, ⟨rfl, rfl, rfl, rfl, rfl, c + 1, by omega, ?_, HJ'⟩, ?_⟩
      · show Value.int .i64 _ = _
        go_num
      · show k - (intOf (Value.int .i64 _)).toNat < k - (intOf (F2 16)).toNat
        rw [H16.out]
        simp [intOf]; omega
    have hck' : ¬ (c : Int) < (k : Int) := by omega
    obtain rfl : c = k := by omega
    have hcon := contains_any (HS.out.ext (HXW.out.trans hx6)) HL.out (HOK.out.rb L (List.mem_of_getElem? HL.out)) (by have := HOK.out.nD; have := HOK.out.rn; omega) (mkT (fun c => acc.getD c 0) c)
    have hrw := rowsAt_some HL.out
    obtain ⟨mb, hmb⟩ : ∃ mb, mb = decide (mkT (fun c => acc.getD c 0) c ∈ L) := ⟨_, rfl⟩
    rw [← hmb] at hcon
    have HMB := hid_of hmb
    have HX6 := hid_of hx6
    have HKK : Hid (∀ V', V6.Extends V' → blk V' b10 = some Fact.zero.enc ∧ free V' b10 = true ∧ blk V' b15 = some FE) := fun V' hx => ⟨(HK1.out.ext (hx6.trans hx)).2.1, (HK1.out.ext (hx6.trans hx)).2.2.1, (hx.blk (blk_lt hb15)).trans hb15⟩
    obtain ⟨TT, hTT⟩ : ∃ TT, TT = mkT (fun c => acc.getD c 0) c := ⟨_, rfl⟩
    rw [← hTT] at ft hcon
    have HFE2 : Hid (FE = Fact.enc ⟨(y : Int), mkT (fun c => acc.getD c 0) c⟩) := HFE.out
    clear HJ hxV6 hx6 kb7 kb10 kf10 kb12 hFE hmb hf15 hTT HFE
    go_wp2_with fail
    refine hcon.mono ?_
    rintro e V7 ⟨rfl, hx7⟩
    dsimp only
    obtain ⟨hb10, hf10, hb15'⟩ := HKK.out V7 hx7
    have hx17 := HX6.out.trans hx7
    clear hcon hb15 HKK
    cases hmb : mb with
    | false =>
      have HP := hid_of (HRET.out V7 40 Fact.zero hx17 (by
        rw [HND3.out, HNL3.out, if_pos]
        rw [hrw]
        exact of_decide_eq_false (HMB.out.symm.trans hmb)))
      clear hx7 hx17 hmb hrw
      go_wp2_with fail
      refine ret_cell_tmp (C := Fact.zero.enc) rfl rfl rfl ?_ (by kernel_rfl) (by rw [Fact.length_enc]; kernel_rfl) rfl HP.out
      first | (rw [blk_put, if_pos rfl, hb10]; rfl) | (simp only [blk_put, if_true, hb10, Option.map_some]; try rfl)
    | true =>
      have HP : Hid (Q (.returned (.tuple #[.agg FE.toArray, .int .i64 0])) (put V7 b10 FE)) := by
        have h9 := HRET.out V7 0 ⟨(y : Int), mkT (fun c => acc.getD c 0) c⟩ hx17 (by
          rw [HND3.out, HNL3.out, if_neg]
          rw [hrw]
          exact fun h => h (of_decide_eq_true (HMB.out.symm.trans hmb)))
        rw [← HFE2.out] at h9
        exact h9
      clear hx7 hx17 hmb hrw
      go_wp2_with fail
      refine ret_cell_tmp (C := FE) rfl rfl rfl ?_ (by kernel_rfl) (by rw [fl]; kernel_rfl) rfl HP.out
      first | (rw [blk_put, if_pos rfl, hb10]; rfl) | (simp only [blk_put, if_true, hb10, Option.map_some]; try rfl)
  have HND3 : Hid (ndF p N R q.1 i d bef = nrF p R i d acc bef) := by
    show _ = _
    rw [HND2.out, if_neg hneg]
  clear HND2
  obtain ⟨Ce, pa, pc, da, dc, ra, rc, z1, z2, z3, z4, z5, z6, z7, z8, z9⟩ := (HPC.out.ext (HXW.out.trans HX1.out)).cells
  obtain ⟨y, hy⟩ : ∃ y : Nat, rl = (y : Int) := ⟨rl.toNat, by omega⟩
  subst hy
  obtain ⟨nr, hnr⟩ : ∃ nr, nr = p.rules.length := ⟨_, rfl⟩
  rw [← hnr] at z5
  have l2 : 4 < Ce.length := by omega
  have HNR : Hid (nr = p.rules.length) := hnr
  have HZ9 := hid_of z9
  have h128 := HOK.out.nR
  rw [← hnr] at h128
  clear z2 z3 z4 z6 z7 z8 z9 hnr
  by_cases hyn : (nr : Int) ≤ (y : Int)
  · have HP : Hid (∀ j, Q (.returned (.tuple #[.agg Fact.zero.enc.toArray, .int .i64 38])) (put (V.drewN j) b10 Fact.zero.enc)) := fun j => HRET.out _ 38 Fact.zero (extends_drewN HX1.out j) (by
      rw [HND3.out]
      unfold nrF
      rw [← HRL.out, ← HNR.out, if_pos hyn])
    go_upto_region 22 with fail
    go_quiet (fail)
    go_wp2_with fail
    refine ret_cell_tmp (C := Fact.zero.enc) rfl rfl rfl ?_ (by kernel_rfl) (by rw [Fact.length_enc]; kernel_rfl) rfl (HP.out _)
    first | (rw [blk_put, if_pos rfl, blk_drewN, hb10]; rfl) | (simp only [blk_put, if_true, blk_drewN, hb10, Option.map_some]; try rfl)
  have hyn' : ¬ (nr : Int) ≤ (y : Int) := hyn
  have yq0 : (0 : Int) ≤ (y : Int) := by omega
  have yq1 : (y : Int) < (nr : Int) := by omega
  have yq2 : ((y : Int)).toNat = y := by omega
  obtain ⟨r, hr⟩ : ∃ r, p.rules[y]? = some r := ⟨_, List.getElem?_eq_getElem (by rw [← HNR.out]; omega)⟩
  obtain ⟨bR, CR, xr, d1, d2, d3, d4, d5, d6⟩ := HZ9.out y r hr
  rw [d1] at z5
  have hrf := HOK.out.rl r (List.mem_of_getElem? hr)
  have HRF := hid_of hrf
  have HNR2 : Hid (nrF p R i d acc bef = if (nbF R i acc d.refs bef r.body 0).1 ≠ 0 then ((nbF R i acc d.refs bef r.body 0).1, Fact.zero) else if insOk r.head acc = false ∨ (nbF R i acc d.refs bef r.body 0).2 ≠ rn then (39, Fact.zero) else (0, ⟨(r.head.pred : Int), insT r.head acc⟩)) := by
    show _ = _
    unfold nrF
    rw [← HRL.out, ← HNR.out, if_neg hyn, Int.toNat_natCast, List.getD_eq_getElem?_getD, hr, HRN.out]; rfl
  have yh : seg xr.enc 0 2 = xr.head.enc := GRule.head_get xr
  have yb : nth xr.enc 2 = some (.slice xr.body.a r.body.length xr.body.cap) := by
    obtain ⟨_, Ls, g1, g2, _⟩ := d6
    rw [GRule.body_get, ← g2, g1.1]; rfl
  have yrl : xr.enc.length = 3 := GRule.length_enc xr
  have yro : okCells 3 xr.enc = true := GRule.ok_enc xr
  have yrs : splice GRule.zero.enc 0 xr.enc = xr.enc := GRule.all_set _ _
  obtain ⟨bl, hbl⟩ : ∃ bl, bl = r.body.length := ⟨_, rfl⟩
  have HBL := hid_of hbl
  rw [← hbl] at yb
  have hbl8 : bl ≤ 1000 := by rw [hbl]; exact hrf.1.2.1
  obtain ⟨RE, hRE⟩ : ∃ RE, RE = xr.enc := ⟨_, rfl⟩
  rw [← hRE] at d4 yh yb yrl yro yrs
  have HRC : Hid (∀ V', V.Extends V' → RuleC V' xr r) := fun V' hx => d6.ext hx
  have re2 : 2 < RE.length := by omega
  have re02 : 0 + 2 ≤ RE.length := by omega
  obtain ⟨tot3, htot3⟩ : ∃ tot3, tot3 = nbF R i acc d.refs bef r.body 0 := ⟨_, rfl⟩
  rw [← htot3] at HNR2
  have HT3 := hid_of htot3
  clear d1 d5 d6 hr hrf hbl hRE HZ9 htot3 hneg
  go_upto_region 22 with fail
  go_quiet (fail)
  go_upto_region 24 with fail
  refine wp_world (fun V' => V.Extends V') (extends_drewN (ext_Ext (Ext.refl _)) _) ?_
  intro V4 hx4
  have HS4 : Hid (∀ V', V4.Extends V' → blk V' bp = some Ce ∧ blk V' bR = some CR ∧ blk V' b12 = some NE) := fun V' hx => ⟨((hx4.trans hx).blk (blk_lt z1)).trans z1, ((hx4.trans hx).blk (blk_lt d2)).trans d2, (HK1.out.ext (HX1.out.trans (hx4.trans hx))).2.2.2⟩
  have hSd := HS4.out V4.drew (extd V4)
  have hSa : ∀ (A : Array Value) (e : TypeId), blk (V4.drew.alloc (.cells A e)) bp = some Ce ∧ blk (V4.drew.alloc (.cells A e)) bR = some CR ∧ blk (V4.drew.alloc (.cells A e)) b12 = some NE := fun A e => HS4.out _ ((extd V4).trans (extends_alloc (ext_Ext (Ext.refl _)) _))
  have hSp : ∀ C, blk (put (V4.alloc (.cells GRule.zero.enc.toArray 147)).drew V4.heap.size C) bp = some Ce ∧ blk (put (V4.alloc (.cells GRule.zero.enc.toArray 147)).drew V4.heap.size C) bR = some CR ∧ blk (put (V4.alloc (.cells GRule.zero.enc.toArray 147)).drew V4.heap.size C) b12 = some NE := fun C => HS4.out _ (extends_put (extends_drew (extends_alloc (ext_Ext (Ext.refl V4)) _)) (Nat.le_refl _) C)
  have HX4 := hid_of hx4
  clear hb7 hb10 hf10 hb12 hx4 HS4
  refine wp_region_held_drew (S := fun W' => blk W' bp = some Ce ∧ blk W' bR = some CR ∧ blk W' b12 = some NE) (by kernel_rfl) hSd (fun hHeld => ?_)
  refine wpAnyH_take (i := 0) (oi := ⟨_, _, _, _, _, _⟩) (v := ?_) rfl (by kernel_rfl) (by kernel_rfl) (by kernel_rfl) (fun _ _ _ h => h) (Or.inl ⟨by rfl, ?_⟩) (by assumption) ?_
  rotate_left 1
  · intro W' hSw
    obtain ⟨hS1, hS2, hS3⟩ := hSw
    go_simp
    try with_reducible rfl
  try simp only [Act.put, List.setIfInBounds_toArray, List.set_cons_zero, List.set_cons_succ]
  refine wpAnyH_take (i := 1) (oi := ⟨_, _, _, _, _, _⟩) (v := ?_) rfl (by kernel_rfl) (by kernel_rfl) (by kernel_rfl) (fun _ _ _ h => h) (Or.inl ⟨by rfl, ?_⟩) (by assumption) ?_
  rotate_left 1
  · intro W' hSw
    obtain ⟨hS1, hS2, hS3⟩ := hSw
    go_simp
    try with_reducible rfl
  try simp only [Act.put, List.setIfInBounds_toArray, List.set_cons_zero, List.set_cons_succ]
  refine wpAnyH_take (i := 2) (oi := ⟨_, _, _, _, _, _⟩) (v := ?_) rfl (by kernel_rfl) (by kernel_rfl) (by kernel_rfl) (fun _ _ _ h => h) (Or.inl ⟨by rfl, ?_⟩) (by assumption) ?_
  rotate_left 1
  · intro W' hSw
    obtain ⟨hS1, hS2, hS3⟩ := hSw
    go_simp
    try with_reducible rfl
  try simp only [Act.put, List.setIfInBounds_toArray, List.set_cons_zero, List.set_cons_succ]
  refine wpAnyH_take (i := 3) (oi := ⟨_, _, _, _, _, _⟩) (v := ?_) rfl (by kernel_rfl) (by kernel_rfl) (by kernel_rfl) (fun _ _ _ h => h) (Or.inl ⟨by rfl, ?_⟩) (by assumption) ?_
  rotate_left 1
  · intro W' hSw
    obtain ⟨hS1, hS2, hS3⟩ := hSw
    go_simp
    try with_reducible rfl
  try simp only [Act.put, List.setIfInBounds_toArray, List.set_cons_zero, List.set_cons_succ]
  refine wpAnyH_take (i := 4) (oi := ⟨_, _, _, _, _, _⟩) (v := ?_) rfl (by kernel_rfl) (by kernel_rfl) (by kernel_rfl) (fun _ _ _ h => h) (Or.inl ⟨by rfl, ?_⟩) (by assumption) ?_
  rotate_left 1
  · intro W' hSw
    obtain ⟨hS1, hS2, hS3⟩ := hSw
    go_simp
    try with_reducible rfl
  try simp only [Act.put, List.setIfInBounds_toArray, List.set_cons_zero, List.set_cons_succ]
  refine wpAnyH_take (i := 5) (oi := ⟨_, _, _, _, _, _⟩) (v := ?_) rfl (by kernel_rfl) (by kernel_rfl) (by kernel_rfl) (fun _ _ _ h => h) (Or.inl ⟨by rfl, ?_⟩) (by assumption) ?_
  rotate_left 1
  · intro W' hSw
    obtain ⟨hS1, hS2, hS3⟩ := hSw
    go_simp
    try with_reducible rfl
  try simp only [Act.put, List.setIfInBounds_toArray, List.set_cons_zero, List.set_cons_succ]
  refine wpAnyH_take (i := 6) (oi := ⟨_, _, _, _, _, _⟩) (v := ?_) rfl (by kernel_rfl) (by kernel_rfl) (by kernel_rfl) (fun _ _ _ h => h) (Or.inl ⟨by rfl, ?_⟩) (by assumption) ?_
  rotate_left 1
  · intro W' hSw
    obtain ⟨hS1, hS2, hS3⟩ := hSw
    go_simp
    try with_reducible rfl
  try simp only [Act.put, List.setIfInBounds_toArray, List.set_cons_zero, List.set_cons_succ]
  refine wpAnyH_take (i := 7) (oi := ⟨_, _, _, _, _, _⟩) (v := ?_) rfl (by kernel_rfl) (by kernel_rfl) (by kernel_rfl) (fun _ _ _ h => h) (Or.inl ⟨by rfl, ?_⟩) (by assumption) ?_
  rotate_left 1
  · intro W' hSw
    obtain ⟨hS1, hS2, hS3⟩ := hSw
    go_simp
    try with_reducible rfl
  try simp only [Act.put, List.setIfInBounds_toArray, List.set_cons_zero, List.set_cons_succ]
  refine wpAnyH_ready (rs := [8]) (by kernel_rfl) (by simp) ?_
  refine AllReadyH.cons (o := ⟨_, _, _, _, _, _⟩) rfl (fun K' hK => ?_) AllReadyH.nil
  go_simp
  refine hK.out _ _ (hSa _ _) (fun hHeld => ?_)
  clear hK K'
  try simp only [Act.put, List.setIfInBounds_toArray, List.set_cons_zero, List.set_cons_succ]
  refine wpAnyH_ready (rs := [9]) (by kernel_rfl) (by simp) ?_
  refine AllReadyH.cons (o := ⟨_, _, _, _, _, _⟩) rfl (fun K' hK => ?_) AllReadyH.nil
  go_simp
  refine hK.out _ _ (hSp _) (fun hHeld => ?_)
  clear hK K'
  try simp only [Act.put, List.setIfInBounds_toArray, List.set_cons_zero, List.set_cons_succ]
  refine wpAnyH_done (by kernel_rfl) ?_ _
  go_upto_region 27 with fail
  refine wp_world (fun V' => V.Extends V' ∧ blk V' V4.heap.size = some RE) ⟨?_, ?_⟩ ?_
  · exact extends_put (extends_drew (extends_alloc HX4.out _)) HX4.out.size _
  · rw [blk_put, if_pos rfl, blk_drew, blk_alloc, if_pos rfl]; rfl
  rintro V5 ⟨hxV5, hb17⟩
  obtain ⟨b17, e17⟩ : ∃ b17, b17 = V4.heap.size := ⟨_, rfl⟩
  first | rw [← e17] at hb17 ⊢ | (rw [← e17] at hb17; rw [show V4.drew.heap.size = b17 from e17.symm])
  have HI0 : Hid (V.Extends V5 ∧ blk V5 b17 = some RE ∧ nbF R i acc d.refs bef (r.body.drop 0) 0 = tot3) := ⟨hxV5, hb17, HT3.out.symm⟩
  clear e17 hxV5 hb17 z1 d2 hSd hSa hSp
  refine wp_loop_f 218 (nd3T V bp bst b10 b12 b17 i ba bn bc va k vc bl RE R acc d.refs bef r tot3) (fun f _ => bl - (intOf (f 19)).toNat) rfl ⟨rfl, rfl, rfl, rfl, rfl, rfl, rfl, rfl, 0, 0, by omega, by omega, rfl, rfl, HI0⟩ ?_
  clear HI0
  intro F3 V6 hrel
  obtain ⟨f0, f1, f3, f4, f10, f12, f13, f17, m, u, hm, hum, f18, f19, HJ⟩ := hrel
  have H19 := hid_of f19
  rw [frame218n, f0, f1, f3, f4, f10, f12, f13, f17, f18, f19]
  clear f0 f1 f3 f4 f10 f12 f13 f17 f18 f19
  obtain ⟨hxV6, hb17, hgo⟩ := HJ.out
  have hx6 : W1.Extends V6 := HX1.out.trans hxV6
  have HXV6 := hid_of hxV6
  have HX6 := hid_of hx6
  have HB17 := hid_of hb17
  have HKB : Hid (∀ V', V6.Extends V' → blk V' b10 = some Fact.zero.enc ∧ free V' b10 = true ∧ blk V' b12 = some NE ∧ blk V' b17 = some RE) := fun V' hx => ⟨(HK1.out.ext (hx6.trans hx)).2.1, (HK1.out.ext (hx6.trans hx)).2.2.1, (HK1.out.ext (hx6.trans hx)).2.2.2, (hx.blk (blk_lt hb17)).trans hb17⟩
  obtain ⟨hb10, hf10, hb12, -⟩ := HKB.out V6 (ext_Ext (Ext.refl _))
  by_cases hmb : m < bl
  rotate_left 1
  · have hmb' : ¬ (m : Int) < (bl : Int) := by omega
    have e1 : tot3 = (0, u) := by
      rw [← hgo, List.drop_of_length_le (by rw [← HBL.out]; omega)]; rfl
    have HNR3 : Hid (nrF p R i d acc bef = if insOk r.head acc = false ∨ u ≠ rn then (39, Fact.zero) else (0, ⟨(r.head.pred : Int), insT r.head acc⟩)) := by
      show _ = _
      rw [HNR2.out, e1]; rfl
    have hcall := inst_any V6 xr.head r.head (HRC.out V6 hxV6).1 HRF.out.1.1 va k vc acc (HVR.out V6 hx6 hxV6) (by omega)
    obtain ⟨ib, hib⟩ : ∃ ib, ib = insOk r.head acc := ⟨_, rfl⟩
    have HIB := hid_of hib
    clear HJ hxV6 hx6 hgo e1 hb10 hf10 hb12 HNR2
    go_wp2_with fail
    refine hcall.mono ?_
    rintro e V7 ⟨hf, rfl, hff, hx7⟩
    rw [← hib] at hff ⊢
    dsimp only
    have HFF := hid_of hff
    have HX7 := hid_of hx7
    have hfl : hf.enc.length = 5 := Fact.length_enc _
    have hfo : okCells 5 hf.enc = true := Fact.ok_enc _
    have hfa : seg hf.enc 0 5 = hf.enc := Fact.all_get _
    have hfs : splice Fact.zero.enc 0 hf.enc = hf.enc := Fact.all_set _ _
    obtain ⟨FH, hFH⟩ : ∃ FH, FH = hf.enc := ⟨_, rfl⟩
    rw [← hFH] at hfl hfo hfa hfs ⊢
    have HFH := hid_of hFH
    have hfl5 : 0 + 5 ≤ FH.length := by omega
    clear hcall hib hff hFH hx7 hb17
    go_upto_region 43 with fail
    refine wp_world (fun V' => V6.Extends V' ∧ blk V' V7.heap.size = some FH) ⟨?_, ?_⟩ ?_
    · first | exact extends_alloc HX7.out _ | exact extends_put (extends_alloc HX7.out _) HX7.out.size _
    · first | (rw [blk_alloc, if_pos rfl]) | (rw [blk_put, if_pos rfl, blk_alloc, if_pos rfl]; rfl)
    rintro V8 ⟨hx8, hb22⟩
    obtain ⟨b22, e22⟩ : ∃ b22, b22 = V7.heap.size := ⟨_, rfl⟩
    rw [← e22] at hb22 ⊢
    clear e22
    obtain ⟨hb10, hf10, hb12, -⟩ := HKB.out V8 hx8
    have hx18 := HX6.out.trans hx8
    have HX18 := hid_of hx18
    clear hx8 hx18
    cases hib : ib with
    | false =>
      have HP := hid_of (HRET.out V8 39 Fact.zero HX18.out (by rw [HND3.out, HNR3.out, if_pos (.inl (HIB.out.symm.trans hib))]))
      clear hib
      go_wp2_with fail
      refine ret_cell_tmp (C := Fact.zero.enc) rfl rfl rfl ?_ (by kernel_rfl) (by rw [Fact.length_enc]; kernel_rfl) rfl HP.out
      first | (rw [blk_put, if_pos rfl, hb10]; rfl) | (simp only [blk_put, if_true, hb10, Option.map_some]; try rfl)
    | true =>
      by_cases hur : u = rn
      · have hur' : ((u : Int) != (rn : Int)) = false := by simp [hur]
        have HP : Hid (Q (.returned (.tuple #[.agg FH.toArray, .int .i64 0])) (put V8 b10 FH)) := by
          have h9 := HRET.out V8 0 hf HX18.out (by
            rw [HND3.out, HNR3.out, if_neg (fun h => h.elim (fun e => by rw [← HIB.out, hib] at e; cases e) (fun e => e hur)), HFF.out hib])
          rw [← HFH.out] at h9
          exact h9
        clear hib hur
        go_wp2_with fail
        refine ret_cell_tmp (C := FH) rfl rfl rfl ?_ (by kernel_rfl) (by rw [hfl]; kernel_rfl) rfl HP.out
        first | (rw [blk_put, if_pos rfl, hb10]; rfl) | (simp only [blk_put, if_true, hb10, Option.map_some]; try rfl)
      · have hur' : ((u : Int) != (rn : Int)) = true := by simp; omega
        have HP := hid_of (HRET.out V8 39 Fact.zero HX18.out (by rw [HND3.out, HNR3.out, if_pos (.inr hur)]))
        clear hib hur
        go_wp2_with fail
        refine ret_cell_tmp (C := Fact.zero.enc) rfl rfl rfl ?_ (by kernel_rfl) (by rw [Fact.length_enc]; kernel_rfl) rfl HP.out
        first | (rw [blk_put, if_pos rfl, hb10]; rfl) | (simp only [blk_put, if_true, hb10, Option.map_some]; try rfl)
  have hmb' : (m : Int) < (bl : Int) := by omega
  have m0 : (0 : Int) ≤ (m : Int) := by omega
  have m2 : ((m : Int)).toNat = m := by omega
  obtain ⟨l, hl⟩ : ∃ l, r.body[m]? = some l := ⟨_, List.getElem?_eq_getElem (by rw [← HBL.out]; exact hmb)⟩
  obtain ⟨bL, CL, xa, t1, t2, t3, t4, t5, t6, t7⟩ := lit_at (HRC.out V6 hxV6) hl
  rw [t1] at yb
  have hlf := HRF.out.1.2.2 l (List.mem_of_getElem? hl)
  have HLF := hid_of hlf
  have hdr : r.body.drop m = l :: r.body.drop (m + 1) := by
    obtain ⟨hlt, he⟩ := List.getElem?_eq_some_iff.1 hl
    rw [← he]; exact List.drop_eq_getElem_cons hlt
  rw [hdr] at hgo
  have HGO := hid_of hgo
  have hcall := inst_any V6 xa l.atom t7 hlf.1 va k vc acc (HVR.out V6 hx6 hxV6) (by omega)
  obtain ⟨ib, hib⟩ : ∃ ib, ib = insOk l.atom acc := ⟨_, rfl⟩
  have HIB := hid_of hib
  obtain ⟨ng, hng⟩ : ∃ ng, ng = l.neg := ⟨_, rfl⟩
  rw [← hng] at t4
  have HNG := hid_of hng
  have tm : m * 3 + 1 + 2 ≤ CL.length := by omega
  have tm0 : m * 3 < CL.length := by omega
  have HCL : Hid (∀ V', V6.Extends V' → blk V' bL = some CL) := fun V' hx => (hx.blk (blk_lt t2)).trans t2
  have HERR : Hid (∀ V' cd, W1.Extends V' → tot3 = (cd, u) → cd ≠ 0 → Q (.returned (.tuple #[.agg Fact.zero.enc.toArray, .int .i64 cd])) (put V' b10 Fact.zero.enc)) := fun V' cd h1 h2 h3 => HRET.out V' cd Fact.zero h1 (by
    rw [HND3.out, HNR2.out, h2]
    exact if_pos h3)
  clear HJ hxV6 hx6 hgo hl hlf hdr t1 t3 t5 t7 hng hb10 hf10 hb12
  go_wp2_with fail
  refine hcall.mono ?_
  rintro e V7 ⟨fw, rfl, hff, hx7⟩
  rw [← hib] at hff ⊢
  dsimp only
  have HFF := hid_of hff
  have HX7 := hid_of hx7
  have wl : fw.enc.length = 5 := Fact.length_enc _
  have wo : okCells 5 fw.enc = true := Fact.ok_enc _
  have wa : seg fw.enc 0 5 = fw.enc := Fact.all_get _
  have wp0 : nth fw.enc 0 = some (.int .i64 fw.pred) := Fact.pred_get _
  have wt : seg fw.enc 1 4 = arr i64v fw.t := Fact.t_get _
  have wl5 : 0 + 5 ≤ fw.enc.length := by omega
  have wl1 : 1 + 4 ≤ fw.enc.length := by omega
  have wl0 : 0 < fw.enc.length := by omega
  clear hcall hib hff hx7 hb17 t2 wl
  go_upto_region 30 with fail
  refine wp_world (fun V' => V6.Extends V' ∧ blk V' V7.heap.size = some fw.enc) ⟨?_, ?_⟩ ?_
  · first | exact extends_alloc HX7.out _ | exact extends_put (extends_alloc HX7.out _) HX7.out.size _
  · first | (rw [blk_alloc, if_pos rfl]) | (rw [blk_put, if_pos rfl, blk_alloc, if_pos rfl]; rfl)
  rintro V8 ⟨hx8, hb20⟩
  obtain ⟨b20, e20⟩ : ∃ b20, b20 = V7.heap.size := ⟨_, rfl⟩
  rw [← e20] at hb20 ⊢
  clear e20
  obtain ⟨hb10, hf10, hb12, hb17⟩ := HKB.out V8 hx8
  have hbL := HCL.out V8 hx8
  have HX8 := hid_of hx8
  have HX18 := hid_of (HX6.out.trans hx8)
  have HXV8 := hid_of (HXV6.out.trans hx8)
  clear hx8
  cases hib : ib with
  | false =>
    have HP := hid_of (HERR.out V8 39 HX18.out (by
      rw [← HGO.out]
      show (if insOk l.atom acc = false then _ else _) = _
      rw [if_pos (HIB.out.symm.trans hib)]) (by decide))
    clear hib
    go_wp2_with fail
    refine ret_cell_tmp (C := Fact.zero.enc) rfl rfl rfl ?_ (by kernel_rfl) (by rw [Fact.length_enc]; kernel_rfl) rfl HP.out
    first | (rw [blk_put, if_pos rfl, hb10]; rfl) | (simp only [blk_put, if_true, hb10, Option.map_some]; try rfl)
  | true =>
  have hfw := HFF.out hib
  have hio : insOk l.atom acc = true := HIB.out.symm.trans hib
  have HGO2 : Hid ((if l.neg then (if insT l.atom acc ∈ rowsAt R l.atom.pred then (42, u) else nbF R i acc d.refs bef (r.body.drop (m + 1)) u) else
    if d.refs.length ≤ u then (39, u) else if (i : Int) ≤ d.refs.getD u 0 then (35, u) else if bef.getD (d.refs.getD u 0).toNat Fact.zero ≠ fw then (41, u) else nbF R i acc d.refs bef (r.body.drop (m + 1)) (u + 1)) = tot3) := by
    have h9 := HGO.out
    rw [hfw]
    have h8 : nbF R i acc d.refs bef (l :: r.body.drop (m + 1)) u = if insOk l.atom acc = false then (39, u) else if l.neg then (if insT l.atom acc ∈ rowsAt R l.atom.pred then (42, u) else nbF R i acc d.refs bef (r.body.drop (m + 1)) u) else
      if d.refs.length ≤ u then (39, u) else if (i : Int) ≤ d.refs.getD u 0 then (35, u) else if bef.getD (d.refs.getD u 0).toNat Fact.zero ≠ ⟨(l.atom.pred : Int), insT l.atom acc⟩ then (41, u) else nbF R i acc d.refs bef (r.body.drop (m + 1)) (u + 1) := rfl
    rw [h8, if_neg (by rw [hio]; decide)] at h9
    exact h9
  have HFW := hid_of hfw
  clear hib hfw hio HGO HFF
  cases hng : ng with
  | true =>
    have hgo2 := HGO2.out
    rw [if_pos (HNG.out.symm.trans hng)] at hgo2
    have HGO3 := hid_of hgo2
    obtain ⟨L, hL⟩ : ∃ L, R[l.atom.pred]? = some L := ⟨_, List.getElem?_eq_getElem (by rw [HOK.out.rn]; exact HLF.out.2)⟩
    have hcon := contains_any (HS.out.ext (HXW.out.trans HX18.out)) hL (HOK.out.rb L (List.mem_of_getElem? hL)) (by have := HOK.out.nD; have := HOK.out.rn; omega) fw.t
    have hrw := rowsAt_some hL
    have hp9 : fw.pred = (l.atom.pred : Int) := by rw [HFW.out]
    have ht9 : fw.t = insT l.atom acc := by rw [HFW.out]
    obtain ⟨mb, hmb2⟩ : ∃ mb, mb = decide (fw.t ∈ L) := ⟨_, rfl⟩
    rw [← hmb2, ← hp9] at hcon
    have HMB : Hid (mb = decide (insT l.atom acc ∈ L)) := by rw [hmb2, ht9]; exact hid_of rfl
    have HRW := hid_of hrw
    have t4' : nth CL (m * 3) = some (.bool true) := by rw [← hng]; exact t4
    clear hgo2 hL hrw hp9 ht9 hmb2 hng t4 HGO2
    go_wp2_with fail
    refine hcon.mono ?_
    rintro e V9 ⟨rfl, hx9⟩
    dsimp only
    have hx89 := HX8.out.trans hx9
    obtain ⟨hb10', hf10', -, hb17'⟩ := HKB.out V9 hx89
    have HX9 : Hid (W1.Extends V9 ∧ V.Extends V9) := ⟨HX18.out.trans hx9, HXV8.out.trans hx9⟩
    clear hcon hx9 hx89 hb10 hf10 hb12 hb17 hbL hb20
    have hb10 := hb10'
    cases hm9 : mb with
    | true =>
      have HP := hid_of (HERR.out V9 42 HX9.out.1 (by
        rw [← HGO3.out, HRW.out, if_pos (of_decide_eq_true (HMB.out.symm.trans hm9))]) (by decide))
      clear hm9
      go_wp2_with fail
      refine ret_cell_tmp (C := Fact.zero.enc) rfl rfl rfl ?_ (by kernel_rfl) (by rw [Fact.length_enc]; kernel_rfl) rfl HP.out
      first | (rw [blk_put, if_pos rfl, hb10]; rfl) | (simp only [blk_put, if_true, hb10, Option.map_some]; try rfl)
    | false =>
      have HJ' : Hid (V.Extends V9 ∧ blk V9 b17 = some RE ∧ nbF R i acc d.refs bef (r.body.drop (m + 1)) u = tot3) := ⟨HX9.out.2, hb17', by
        rw [← HGO3.out, HRW.out, if_neg (of_decide_eq_false (HMB.out.symm.trans hm9))]⟩
      clear hm9
      go_wp2_with fail
      refine ⟨rfl, rfl, ⟨rfl, rfl, rfl, rfl, rfl, rfl, rfl, rfl, m + 1, u, by omega, by omega, rfl, ?_, HJ'⟩, ?_⟩
      · show Value.int .i64 _ = _
        go_num
      · show bl - (intOf (Value.int .i64 _)).toNat < bl - (intOf (F3 19)).toNat
        rw [H19.out]
        simp [intOf]; omega
  | false =>
    have hgo2 := HGO2.out
    rw [if_neg (by rw [← HNG.out, hng]; decide), ← HRN.out] at hgo2
    have HGO3 := hid_of hgo2
    have t4' : nth CL (m * 3) = some (.bool false) := by rw [← hng]; exact t4
    clear hgo2 hng t4 HGO2
    by_cases hur : rn ≤ u
    · have hur' : (rn : Int) ≤ (u : Int) := by omega
      have HP := hid_of (HERR.out V8 39 HX18.out (by rw [← HGO3.out, if_pos hur]) (by decide))
      go_wp2_with fail
      refine ret_cell_tmp (C := Fact.zero.enc) rfl rfl rfl ?_ (by kernel_rfl) (by rw [Fact.length_enc]; kernel_rfl) rfl HP.out
      first | (rw [blk_put, if_pos rfl, hb10]; rfl) | (simp only [blk_put, if_true, hb10, Option.map_some]; try rfl)
    have hur' : ¬ (rn : Int) ≤ (u : Int) := by omega
    have u0 : (0 : Int) ≤ (u : Int) := by omega
    have u1 : (u : Int) < (rn : Int) := by omega
    have u2 : ((u : Int)).toNat = u := by omega
    obtain ⟨rv, hrv⟩ : ∃ rv, d.refs[u]? = some rv := ⟨_, List.getElem?_eq_getElem (by rw [← HRN.out]; omega)⟩
    have hrv0 := HND.out.refs rv (List.mem_of_getElem? hrv)
    obtain ⟨br, Cr, v1, v2, v3, v4, v5⟩ := rw_cell (HV4.out.ext' (HXW.out.trans HX18.out)) hrv (v := .int .i64 rv) rfl
    rw [v1] at y3
    have vm : u < Cr.length := by omega
    have hgd : d.refs.getD u 0 = rv := by rw [List.getD_eq_getElem?_getD, hrv]; rfl
    have HGO4 : Hid ((if (i : Int) ≤ rv then (35, u) else if bef.getD rv.toNat Fact.zero ≠ fw then (41, u) else nbF R i acc d.refs bef (r.body.drop (m + 1)) (u + 1)) = tot3) := by
      have h9 := HGO3.out
      rw [if_neg hur, hgd] at h9
      exact h9
    clear HGO3 hrv hgd v1 v3 v4
    by_cases hri : (i : Int) ≤ rv
    · have HP := hid_of (HERR.out V8 35 HX18.out (by rw [← HGO4.out, if_pos hri]) (by decide))
      go_wp2_with fail
      refine ret_cell_tmp (C := Fact.zero.enc) rfl rfl rfl ?_ (by kernel_rfl) (by rw [Fact.length_enc]; kernel_rfl) rfl HP.out
      first | (rw [blk_put, if_pos rfl, hb10]; rfl) | (simp only [blk_put, if_true, hb10, Option.map_some]; try rfl)
    obtain ⟨y9, hy9⟩ : ∃ y9 : Nat, rv = (y9 : Int) := ⟨rv.toNat, by omega⟩
    subst hy9
    have q0 : (0 : Int) ≤ (y9 : Int) := by omega
    have q1 : (y9 : Int) < (bn : Int) := by have := HBN.out; omega
    have q2 : ((y9 : Int)).toNat = y9 := by omega
    obtain ⟨fb, hfb⟩ : ∃ fb, bef[y9]? = some fb := ⟨_, List.getElem?_eq_getElem (by rw [HB.out.1]; omega)⟩
    obtain ⟨bB, CB, w1, w2, w3, w4⟩ := (HB.out.ext' (HXW.out.trans HX18.out)).2 y9 fb hfb
    have wle : y9 * 5 + 5 ≤ CB.length := by
      have h5 : (y9 + 1) * 5 ≤ bn * 5 := Nat.mul_le_mul_right _ (by omega)
      omega
    have fbo : okCells 5 fb.enc = true := Fact.ok_enc _
    have hgb : bef.getD ((y9 : Int)).toNat Fact.zero = fb := by rw [q2, List.getD_eq_getElem?_getD, hfb]; rfl
    have HGO5 : Hid ((if fb ≠ fw then (41, u) else nbF R i acc d.refs bef (r.body.drop (m + 1)) (u + 1)) = tot3) := by
      have h9 := HGO4.out
      rw [if_neg hri, hgb] at h9
      exact h9
    have HW1 := hid_of w1
    rw [w1]
    clear HGO4 hfb hgb w3
    obtain ⟨eb, heb⟩ : ∃ eb, eb = decide (fb = fw) := ⟨_, rfl⟩
    have hnq : ∀ (W' : World) (x y : Operand), (cmpNe 272 x y (.agg fb.enc.toArray) (.agg fw.enc.toArray)).run Tryz.prog W' = .ok (.value (.bool (!eb))) W' := fun W' x y => by rw [heb]; exact neq224 W' x y fb fw
    have HEB := hid_of heb
    clear heb
    have hSd : blk V8.drew b12 = some NE ∧ blk V8.drew br = some Cr ∧ blk V8.drew bB = some CB ∧ blk V8.drew b20 = some fw.enc := ⟨hb12, v2, w2, hb20⟩
    go_upto_region 39 with fail
    refine wp_region_held_drew (S := fun W' => blk W' b12 = some NE ∧ blk W' br = some Cr ∧ blk W' bB = some CB ∧ blk W' b20 = some fw.enc) (by kernel_rfl) hSd (fun hHeld => ?_)
    refine wpAnyH_take (i := 0) (oi := ⟨_, _, _, _, _, _⟩) (v := ?_) rfl (by kernel_rfl) (by kernel_rfl) (by kernel_rfl) (fun _ _ _ h => h) (Or.inl ⟨by rfl, ?_⟩) (by assumption) ?_
    rotate_left 1
    · intro W' hSw
      obtain ⟨hS1, hS2, hS3, hS4⟩ := hSw
      go_simp
      try with_reducible rfl
    try simp only [Act.put, List.setIfInBounds_toArray, List.set_cons_zero, List.set_cons_succ]
    refine wpAnyH_take (i := 1) (oi := ⟨_, _, _, _, _, _⟩) (v := ?_) rfl (by kernel_rfl) (by kernel_rfl) (by kernel_rfl) (fun _ _ _ h => h) (Or.inl ⟨by rfl, ?_⟩) (by assumption) ?_
    rotate_left 1
    · intro W' hSw
      obtain ⟨hS1, hS2, hS3, hS4⟩ := hSw
      go_simp
      try with_reducible rfl
    try simp only [Act.put, List.setIfInBounds_toArray, List.set_cons_zero, List.set_cons_succ]
    refine wpAnyH_take (i := 2) (oi := ⟨_, _, _, _, _, _⟩) (v := ?_) rfl (by kernel_rfl) (by kernel_rfl) (by kernel_rfl) (fun _ _ _ h => h) (Or.inl ⟨by rfl, ?_⟩) (by assumption) ?_
    rotate_left 1
    · intro W' hSw
      obtain ⟨hS1, hS2, hS3, hS4⟩ := hSw
      go_simp
      try with_reducible rfl
    try simp only [Act.put, List.setIfInBounds_toArray, List.set_cons_zero, List.set_cons_succ]
    refine wpAnyH_take (i := 3) (oi := ⟨_, _, _, _, _, _⟩) (v := ?_) rfl (by kernel_rfl) (by kernel_rfl) (by kernel_rfl) (fun _ _ _ h => h) (Or.inl ⟨by rfl, ?_⟩) (by assumption) ?_
    rotate_left 1
    · intro W' hSw
      obtain ⟨hS1, hS2, hS3, hS4⟩ := hSw
      go_simp
      try with_reducible rfl
    try simp only [Act.put, List.setIfInBounds_toArray, List.set_cons_zero, List.set_cons_succ]
    refine wpAnyH_take (i := 4) (oi := ⟨_, _, _, _, _, _⟩) (v := ?_) rfl (by kernel_rfl) (by kernel_rfl) (by kernel_rfl) (fun _ _ _ h => h) (Or.inl ⟨by rfl, ?_⟩) (by assumption) ?_
    rotate_left 1
    · intro W' hSw
      obtain ⟨hS1, hS2, hS3, hS4⟩ := hSw
      go_simp
      try with_reducible rfl
    try simp only [Act.put, List.setIfInBounds_toArray, List.set_cons_zero, List.set_cons_succ]
    refine wpAnyH_take (i := 5) (oi := ⟨_, _, _, _, _, _⟩) (v := ?_) rfl (by kernel_rfl) (by kernel_rfl) (by kernel_rfl) (fun _ _ _ h => h) (Or.inl ⟨by rfl, ?_⟩) (by assumption) ?_
    rotate_left 1
    · intro W' hSw
      obtain ⟨hS1, hS2, hS3, hS4⟩ := hSw
      go_simp
      try with_reducible rfl
    try simp only [Act.put, List.setIfInBounds_toArray, List.set_cons_zero, List.set_cons_succ]
    refine wpAnyH_take (i := 6) (oi := ⟨_, _, _, _, _, _⟩) (v := ?_) rfl (by kernel_rfl) (by kernel_rfl) (by kernel_rfl) (fun _ _ _ h => h) (Or.inl ⟨by rfl, ?_⟩) (by assumption) ?_
    rotate_left 1
    · intro W' hSw
      obtain ⟨hS1, hS2, hS3, hS4⟩ := hSw
      go_simp
      try with_reducible rfl
    try simp only [Act.put, List.setIfInBounds_toArray, List.set_cons_zero, List.set_cons_succ]
    refine wpAnyH_take (i := 7) (oi := ⟨_, _, _, _, _, _⟩) (v := ?_) rfl (by kernel_rfl) (by kernel_rfl) (by kernel_rfl) (fun _ _ _ h => h) (Or.inl ⟨by rfl, ?_⟩) (by assumption) ?_
    rotate_left 1
    · intro W' hSw
      obtain ⟨hS1, hS2, hS3, hS4⟩ := hSw
      go_simp
      try with_reducible rfl
    try simp only [Act.put, List.setIfInBounds_toArray, List.set_cons_zero, List.set_cons_succ]
    refine wpAnyH_take (i := 8) (oi := ⟨_, _, _, _, _, _⟩) (v := ?_) rfl (by kernel_rfl) (by kernel_rfl) (by kernel_rfl) (fun _ _ _ h => h) (Or.inl ⟨by rfl, ?_⟩) (by assumption) ?_
    rotate_left 1
    · intro W' hSw
      obtain ⟨hS1, hS2, hS3, hS4⟩ := hSw
      go_simp
      try with_reducible rfl
    try simp only [Act.put, List.setIfInBounds_toArray, List.set_cons_zero, List.set_cons_succ]
    refine wpAnyH_take (i := 9) (oi := ⟨_, _, _, _, _, _⟩) (v := ?_) rfl (by kernel_rfl) (by kernel_rfl) (by kernel_rfl) (fun _ _ _ h => h) (Or.inl ⟨by rfl, ?_⟩) (by assumption) ?_
    rotate_left 1
    · intro W' hSw
      obtain ⟨hS1, hS2, hS3, hS4⟩ := hSw
      go_simp
      try with_reducible rfl
    try simp only [Act.put, List.setIfInBounds_toArray, List.set_cons_zero, List.set_cons_succ]
    refine wpAnyH_done (by kernel_rfl) ?_ _
    have hb10d : blk V8.drew b10 = some Fact.zero.enc := hb10
    have hf10d : free V8.drew b10 = true := hf10
    have hb17d : blk V8.drew b17 = some RE := hb17
    clear hb10 hf10 hb17 hb12 v2 w2 hb20 hSd hbL
    have hb10 := hb10d
    cases he9 : eb with
    | false =>
      have HP := hid_of (HERR.out V8.drew 41 (extends_drew HX18.out) (by rw [← HGO5.out, if_pos (of_decide_eq_false (HEB.out.symm.trans he9))]) (by decide))
      clear he9
      go_wp2_with fail
      refine ret_cell_tmp (C := Fact.zero.enc) rfl rfl rfl ?_ (by kernel_rfl) (by rw [Fact.length_enc]; kernel_rfl) rfl HP.out
      first | (rw [blk_put, if_pos rfl, hb10]; rfl) | (simp only [blk_put, if_true, hb10, Option.map_some]; try rfl)
    | true =>
      have HJ' : Hid (V.Extends V8.drew ∧ blk V8.drew b17 = some RE ∧ nbF R i acc d.refs bef (r.body.drop (m + 1)) (u + 1) = tot3) := ⟨extends_drew HXV8.out, hb17d, by rw [← HGO5.out, if_neg (fun e => e (of_decide_eq_true (HEB.out.symm.trans he9)))]⟩
      clear he9
      go_wp2_with fail
      refine ⟨rfl, rfl, ⟨rfl, rfl, rfl, HW1.out.symm ▸ rfl, rfl, rfl, rfl, rfl, m + 1, u + 1, by omega, by omega, ?_, ?_, HJ'⟩, ?_⟩
      · show Value.int .i64 _ = _
        go_num
      · show Value.int .i64 _ = _
        go_num
      · show bl - (intOf (Value.int .i64 _)).toNat < bl - (intOf (F3 19)).toNat
        rw [H19.out]
        simp [intOf]; omega

attribute [local go_sem ↓] execOp_load execOp_store execOp_alloc
attribute [local go_sem] Tryz.ld26 Tryz.st26 Tryz.ld27 Tryz.st27 Tryz.ld28 Tryz.st28 Tryz.ld3 Tryz.st3 Tryz.ld29 Tryz.st29 Tryz.ld44 Tryz.st44 Tryz.ld4 Tryz.st4 Tryz.ld50 Tryz.st50 Tryz.ld32 Tryz.st32 Tryz.ld49 Tryz.st49 Tryz.ld68 Tryz.st68 Tryz.ld9 Tryz.st9 Tryz.ld40 Tryz.st40 Tryz.ld138 Tryz.st138 Tryz.ld139 Tryz.st139 Tryz.ld146 Tryz.st146 Tryz.ld183 Tryz.st183 Tryz.ld184 Tryz.st184 Tryz.ld192 Tryz.st192 Tryz.ld195 Tryz.st195 Tryz.ld217 Tryz.st217 Tryz.ld159 Tryz.st159 Tryz.ld142 Tryz.st142 Tryz.ld2 Tryz.st2 Tryz.ld5 Tryz.st5 Tryz.ld12 Tryz.st12 Tryz.ld21 Tryz.st21 Tryz.ld22 Tryz.st22 Tryz.ld24 Tryz.st24 Tryz.ld58 Tryz.st58 Tryz.ld97 Tryz.st97 Tryz.ld101 Tryz.st101 Tryz.ld116 Tryz.st116 Tryz.ld121 Tryz.st121 Tryz.ld135 Tryz.st135 Tryz.ld136 Tryz.st136 Tryz.ld143 Tryz.st143 Tryz.ld148 Tryz.st148 Tryz.ld154 Tryz.st154 Tryz.ld173 Tryz.st173 Tryz.ld187 Tryz.st187 Tryz.ld222 Tryz.st222 Tryz.ld241 Tryz.st241 Tryz.ld248 Tryz.st248 Tryz.ld268 Tryz.st268 Tryz.ld272 Tryz.st272 Tryz.ld153 Tryz.st153 Tryz.ld255 Tryz.st255 Tryz.ld256 Tryz.st256 Tryz.ld129 Tryz.st129 Tryz.ld152 Tryz.st152 Tryz.ld31 Tryz.st31 Tryz.ld46 Tryz.st46 Tryz.ld52 Tryz.st52 Tryz.ld54 Tryz.st54 Tryz.ld60 Tryz.st60 Tryz.ld70 Tryz.st70 Tryz.ld74 Tryz.st74 Tryz.ld93 Tryz.st93 Tryz.ld141 Tryz.st141 Tryz.ld151 Tryz.st151 Tryz.ld170 Tryz.st170 Tryz.ld186 Tryz.st186 Tryz.ld189 Tryz.st189 Tryz.ld194 Tryz.st194 Tryz.ld197 Tryz.st197 Tryz.ld219 Tryz.st219 Tryz.ld224 Tryz.st224 Tryz.ld230 Tryz.st230 Tryz.ld235 Tryz.st235 Tryz.ld243 Tryz.st243 Tryz.ld247 Tryz.st247 Tryz.ld252 Tryz.st252 Tryz.ld258 Tryz.st258 Tryz.al153 Tryz.al255 Tryz.al256 Tryz.al129 Tryz.al152 Tryz.al31 Tryz.al46 Tryz.al52 Tryz.al54 Tryz.al60 Tryz.al70 Tryz.al74 Tryz.al93 Tryz.al141 Tryz.al151 Tryz.al170 Tryz.al186 Tryz.al189 Tryz.al194 Tryz.al197 Tryz.al219 Tryz.al224 Tryz.al230 Tryz.al235 Tryz.al243 Tryz.al247 Tryz.al252 Tryz.al258
attribute [local go_sem] Request.length_enc Request.ok_enc Request.all_get Request.all_set Request.kind_get Request.kind_set Request.blob_get Request.blob_set Request.items_get Request.items_set Request.pred_get Request.pred_set Request.slots_get Request.slots_set Trace.length_enc Trace.ok_enc Trace.all_get Trace.all_set Trace.op_get Trace.op_set Trace.calls_get Trace.calls_set Item.length_enc Item.ok_enc Item.all_get Item.all_set Item.del_get Item.del_set Item.pred_get Item.pred_set Item.args_get Item.args_set Reply.length_enc Reply.ok_enc Reply.all_get Reply.all_set Reply.code_get Reply.code_set Reply.kind_get Reply.kind_set Reply.index_get Reply.index_set Reply.yes_get Reply.yes_set Reply.preds_get Reply.preds_set Reply.rules_get Reply.rules_set Reply.arity_get Reply.arity_set Reply.rows_get Reply.rows_set Reply.fact_get Reply.fact_set Reply.fact_del_get Reply.fact_del_set Reply.fact_pred_get Reply.fact_pred_set Reply.fact_args_get Reply.fact_args_set GEntry.length_enc GEntry.ok_enc GEntry.all_get GEntry.all_set GEntry.seq_get GEntry.seq_set GEntry.kind_get GEntry.kind_set GEntry.code_get GEntry.code_set GOp.length_enc GOp.ok_enc GOp.all_get GOp.all_set GOp.kind_get GOp.kind_set GOp.raw_get GOp.raw_set Reader.length_enc Reader.ok_enc Reader.all_get Reader.all_set Reader.buf_get Reader.buf_set Reader.at__get Reader.at__set Slot.length_enc Slot.ok_enc Slot.all_get Slot.all_set Slot.bound_get Slot.bound_set Slot.name_get Slot.name_set Session.length_enc Session.ok_enc Session.all_get Session.all_set Session.svc_get Session.svc_set Session.buf_get Session.buf_set Session.closed_get Session.closed_set GProgram.length_enc GProgram.ok_enc GProgram.all_get GProgram.all_set GProgram.pool_get GProgram.pool_set GProgram.preds_get GProgram.preds_set GProgram.rules_get GProgram.rules_set GProgram.strata_get GProgram.strata_set PredInfo.length_enc PredInfo.ok_enc PredInfo.all_get PredInfo.all_set PredInfo.arity_get PredInfo.arity_set PredInfo.base_get PredInfo.base_set PredInfo.stratum_get PredInfo.stratum_set Change.length_enc Change.ok_enc Change.all_get Change.all_set Change.del_get Change.del_set Change.pred_get Change.pred_set Change.t_get Change.t_set Store.length_enc Store.ok_enc Store.all_get Store.all_set Store.names_get Store.names_set Store.arity_get Store.arity_set Store.rows_get Store.rows_set Src.length_enc Src.ok_enc Src.all_get Src.all_set Src.b_get Src.b_set Src.at__get Src.at__set Atom.length_enc Atom.ok_enc Atom.all_get Atom.all_set Atom.pred_get Atom.pred_set Atom.args_get Atom.args_set GRule.length_enc GRule.ok_enc GRule.all_get GRule.all_set GRule.head_get GRule.head_set GRule.body_get GRule.body_set GRule.head_pred_get GRule.head_pred_set GRule.head_args_get GRule.head_args_set Cert.length_enc Cert.ok_enc Cert.all_get Cert.all_set Cert.names_get Cert.names_set Cert.nodes_get Cert.nodes_set Fact.length_enc Fact.ok_enc Fact.all_get Fact.all_set Fact.pred_get Fact.pred_set Fact.t_get Fact.t_set Literal.length_enc Literal.ok_enc Literal.all_get Literal.all_set Literal.neg_get Literal.neg_set Literal.atom_get Literal.atom_set Literal.atom_pred_get Literal.atom_pred_set Literal.atom_args_get Literal.atom_args_set Engine.length_enc Engine.ok_enc Engine.all_get Engine.all_set Engine.prog_get Engine.prog_set Engine.st_get Engine.st_set SrcCertm.length_enc SrcCertm.ok_enc SrcCertm.all_get SrcCertm.all_set SrcCertm.b_get SrcCertm.b_set SrcCertm.at__get SrcCertm.at__set GNode.length_enc GNode.ok_enc GNode.all_get GNode.all_set GNode.rule_get GNode.rule_set GNode.pred_get GNode.pred_set GNode.vals_get GNode.vals_set GNode.refs_get GNode.refs_set Term.length_enc Term.ok_enc Term.all_get Term.all_set Term.var_get Term.var_set Term.n_get Term.n_set Env.length_enc Env.ok_enc Env.all_get Env.all_set Env.val_get Env.val_set Env.set_get Env.set_set
attribute [local go_sem] size_put size_ext blk_put free_put blk_alloc free_alloc blk_drew free_drew blk_ext free_ext lookOr_some putOr_some segAt_some cellAt_some storeIn_some put_put put_alloc_new length_arr ok_arr_u8 ok_arr_u32 ok_arr_u64 ok_arr_i64 ok_arr_sl cellsV_agg cellsV_int cellsV_bool cellsV_string cellsV_pointer cellsV_slice cellsV_sl ok_int ok_bool ok_string ok_pointer ok_slice ok_sl toList_arr seg_arr set_arr nth_splice nth_splice0 seg_splice seg_splice0 splice_splice splice_splice0 length_splice_if
attribute [local go_sem ↓] execOp_box
attribute [local go_sem] box_run nth_arr_u8 put_arr_u8 blk_drewN free_drewN put_drewN blk_raw free_raw
def ck1T (V2 : World) (bp bst b7 b9 n : Nat) (p : PP) (N : List (List UInt8)) (R : List (List Tup)) (nms : List (List UInt8)) (nds : List CNode) (tot : Int × List Fact) (f : Nat → Value) (V : World) : Prop := f 0 = .pointer (some ⟨bp, 2, none⟩) ∧ f 1 = .pointer (some ⟨bst, 0, none⟩) ∧ f 7 = .pointer (some ⟨b7, 0, none⟩) ∧ f 9 = .pointer (some ⟨b9, 0, none⟩) ∧ ∃ (i : Nat) (a : Option Addr) (c : Nat), i ≤ n ∧ f 11 = .slice a i c ∧ f 12 = .int .i64 (i : Nat) ∧ Hid (∃ fs, OutG Fact.enc 5 272 V2 V a i c fs ∧ goK p N R nms (nds.drop i) i fs = tot)
attribute [local go_sem ↓] execOp_build execOp_bslice
attribute [local go_sem] build153z bslice222
set_option maxRecDepth 40000 in
set_option maxHeartbeats 8000000 in
theorem checkT_any {B : Nat} {O : Own} {W : World} {g bst : Nat} {N : List (List UInt8)} {A : List Int} {R : List (List Tup)} (hS : Sto B O W g bst N A R) (hN : N.length ≤ 256) {bp : Nat} {p : PP} (hp : ProgT W bp p) (hok : CkOk p R) (a : Option Addr) (n c : Nat) (hn : n ≤ 65536) (hnc : n ≤ c) (hc : c ≤ 9223372036854775807) (xs : List UInt8) (hX : Bs W a n xs) : Calls Tryz.prog 110 #[.pointer (some ⟨bp, 2, none⟩), .pointer (some ⟨bst, 0, none⟩), .slice a n c] W fun e V => e = .returned (.tuple #[.int .i64 (chkF p N R xs).2.pred, .agg (arr i64v (chkF p N R xs).2.t).toArray, .int .i64 (chkF p N R xs).1]) ∧ W.Extends V := by
  obtain ⟨Q, hQ⟩ : ∃ Q : Ending → World → Prop, Q = fun e V => e = .returned (.tuple #[.int .i64 (chkF p N R xs).2.pred, .agg (arr i64v (chkF p N R xs).2.t).toArray, .int .i64 (chkF p N R xs).1]) ∧ W.Extends V := ⟨_, rfl⟩
  rw [← hQ]
  have HQ := hid_of hQ
  have HS := hid_of hS
  have HPC := hid_of hp
  have HOK := hid_of hok
  have HX := hid_of hX
  clear hQ hS hp hok hX
  go_enter Tryz.func110, Tryz.ntmps110
  go_upto_region 1 with fail
  refine wp_world (fun V => W.Extends V ∧ blk V W.heap.size = some (arr i64v (Vector.replicate 4 (0 : Int))) ∧ free V W.heap.size = true) ⟨extends_alloc (ext_Ext (Ext.refl _)) _, by rw [blk_alloc, if_pos rfl], by rw [free_alloc, if_pos rfl]⟩ ?_
  rintro V1 ⟨hx1, hb7, hf7⟩
  obtain ⟨b7, e7⟩ : ∃ b7, b7 = W.heap.size := ⟨_, rfl⟩
  rw [← e7] at hb7 hf7 ⊢
  have hw7 : W.heap.size ≤ b7 := by omega
  clear e7
  have HX1 := hid_of hx1
  have HB7 : Hid (∀ V, V1.Extends V → blk V b7 = some (arr i64v (Vector.replicate 4 (0 : Int))) ∧ free V b7 = true) := fun V hx => ⟨(hx.blk (blk_lt hb7)).trans hb7, (free_of_heap (hx.block b7 (blk_lt hb7))).trans hf7⟩
  have HRET : Hid (∀ (V : World) (cd : Int) (f : Fact), V1.Extends V → chkF p N R xs = (cd, f) → Q (.returned (.tuple #[.int .i64 f.pred, .agg (arr i64v f.t).toArray, .int .i64 cd])) (put V b7 (arr i64v f.t))) := by
    intro V cd f h1 h2
    rw [HQ.out, h2]
    exact ⟨rfl, extends_put (HX1.out.trans h1) hw7 _⟩
  have HZ : Hid (∀ (V : World) (cd : Int), V1.Extends V → chkF p N R xs = (cd, Fact.zero) → Q (.returned (.tuple #[.int .i64 0, .agg (arr i64v (Vector.replicate 4 (0 : Int))).toArray, .int .i64 cd])) (put V b7 (arr i64v (Vector.replicate 4 (0 : Int))))) := fun V cd h1 h2 => HRET.out V cd Fact.zero h1 h2
  have hcall := cdec_any V1 a n c hn hnc hc xs (HX.out.grow hx1)
  clear hx1 hb7 hf7
  go_wp2_with fail
  refine hcall.mono ?_
  rintro e V2 ⟨x, rfl, hx2, hC2⟩
  dsimp only
  obtain ⟨cd, hcd⟩ : ∃ cd, cd = (decC xs).1 := ⟨_, rfl⟩
  rw [← hcd] at hC2 ⊢
  have HCD := hid_of hcd
  have HX2 := hid_of hx2
  have HC2 := hid_of hC2
  have xl : x.enc.length = 2 := Cert.length_enc x
  have xo : okCells 2 x.enc = true := Cert.ok_enc x
  have xa : seg x.enc 0 2 = x.enc := Cert.all_get x
  have xn := Cert.nodes_get x
  have xl2 : 0 + 2 ≤ x.enc.length := by omega
  have xl1 : 1 < x.enc.length := by omega
  clear hcall hcd hx2 hC2 xl
  go_upto_region 2 with fail
  refine wp_world (fun V' => V2.Extends V' ∧ blk V' V2.heap.size = some x.enc) ⟨?_, ?_⟩ ?_
  · first | exact extends_alloc (ext_Ext (Ext.refl _)) _ | exact extends_put (extends_alloc (ext_Ext (Ext.refl _)) _) (Nat.le_refl _) _
  · first | (rw [blk_alloc, if_pos rfl]) | (rw [blk_put, if_pos rfl, blk_alloc, if_pos rfl]; rfl)
  rintro V3 ⟨hx3, hb9⟩
  obtain ⟨b9, e9⟩ : ∃ b9, b9 = V2.heap.size := ⟨_, rfl⟩
  rw [← e9] at hb9 ⊢
  clear e9
  have HX3 : Hid (V1.Extends V3) := HX2.out.trans hx3
  have HB9 := hid_of hb9
  obtain ⟨hb7, hf7⟩ := HB7.out V3 HX3.out
  by_cases hc0 : cd = 0
  rotate_left 1
  · have HP := hid_of (HZ.out V3 cd HX3.out (by unfold chkF; rw [if_pos (by rw [← HCD.out]; exact hc0), ← HCD.out]))
    have hcb : (cd != 0) = true := by simp [hc0]
    clear hc0 hx3
    go_wp2_with fail
    refine ret_tct (C := arr i64v (Vector.replicate 4 (0 : Int))) rfl rfl rfl rfl ?_ (by kernel_rfl) (by rw [length_arr]; kernel_rfl) rfl HP.out
    first | (rw [blk_put, if_pos rfl, hb7]; rfl) | (simp only [blk_put, if_true, hb7, Option.map_some]; try rfl)
  have hC3 := ((HC2.out hc0).sub (newc_sub _ _)).sub (Sub.ext hx3)
  have hdz : (decC xs).1 = 0 := by rw [← HCD.out]; exact hc0
  subst hc0
  obtain ⟨qq, hqq⟩ : ∃ qq, qq = (decC xs).2 := ⟨_, rfl⟩
  rw [← hqq] at hC3
  have hdk := decC_ok (xs := xs) (q := qq) (by rw [hqq, ← hdz])
  have HDK := hid_of hdk
  have HC3 := hid_of hC3
  obtain ⟨tot, htot⟩ : ∃ tot, tot = goK p N R qq.1 qq.2 0 [] := ⟨_, rfl⟩
  have HCH : Hid (chkF p N R xs = if tot.1 ≠ 0 then (tot.1, Fact.zero) else (0, lastF tot.2)) := by
    show _ = _
    unfold chkF
    rw [if_neg (fun e => e hdz), htot, hqq]
  obtain ⟨nl, hnl⟩ : ∃ nl, nl = qq.2.length := ⟨_, rfl⟩
  have HNL := hid_of hnl
  have hnl1 : 1 ≤ nl := by rw [hnl]; exact hdk.2.1
  have hnl2 : nl ≤ 256 := by rw [hnl]; exact hdk.2.2.1
  have xn' : nth x.enc 1 = some (.slice x.nodes.a nl x.nodes.cap) := by
    obtain ⟨Gs, g1, g2⟩ := hC3.2
    rw [xn, hnl, ← g2.1, g1.1]; rfl
  have HI0 : Hid (∃ fs, OutG Fact.enc 5 272 V3 V3 none 0 0 fs ∧ goK p N R qq.1 (qq.2.drop 0) 0 fs = tot) := ⟨[], OutG.nil (ext_Ext (Ext.refl _)), htot.symm⟩
  clear hx3 hC3 hdz hqq hdk htot hnl xn HC2 HCD
  go_upto_region 6 with fail
  refine wp_loop_f 59 (ck1T V3 bp bst b7 b9 nl p N R qq.1 qq.2 tot) (fun f _ => nl - (intOf (f 12)).toNat) rfl ⟨rfl, rfl, rfl, rfl, 0, none, 0, by omega, rfl, rfl, HI0⟩ ?_
  clear HI0 hb9 hb7 hf7
  intro F V hrel
  obtain ⟨f0, f1, f7, f9, i, da, dc, hi, f11, f12, HI⟩ := hrel
  have H12 := hid_of f12
  rw [frame59k, f0, f1, f7, f9, f11, f12]
  clear f0 f1 f7 f9 f11 f12
  obtain ⟨fs, hO, hgo⟩ := HI.out
  have HO := hid_of hO
  have hx13 := HX3.out.trans hO.2.1
  have HX13 := hid_of hx13
  obtain ⟨hb7, hf7⟩ := HB7.out V hx13
  have hb9 : blk V b9 = some x.enc := (hO.2.1.blk (blk_lt HB9.out)).trans HB9.out
  by_cases hin : i < nl
  · have hin' : (i : Int) < (nl : Int) := by omega
    obtain ⟨d, hd⟩ : ∃ d, qq.2[i]? = some d := ⟨_, List.getElem?_eq_getElem (by rw [← HNL.out]; exact hin)⟩
    have hxW := HX1.out.trans hx13
    have hcall := nodeT_any (HS.out.ext hxW) hN (HPC.out.ext hxW) HOK.out x qq (HC3.out.sub (Sub.ext hO.2.1)) (by have := HDK.out.1; omega) HDK.out.2.2.1 i d hd (HDK.out.2.2.2 d (List.mem_of_getElem? hd)) da i dc fs (hO.rw el222) rfl
    have hdr : qq.2.drop i = d :: qq.2.drop (i + 1) := by
      obtain ⟨hlt, he⟩ := List.getElem?_eq_some_iff.1 hd
      rw [← he]; exact List.drop_eq_getElem_cons hlt
    rw [hdr] at hgo
    obtain ⟨nf, hnf⟩ : ∃ nf, nf = ndF p N R qq.1 i d fs := ⟨_, rfl⟩
    have HGO : Hid ((if nf.1 ≠ 0 then (nf.1, []) else goK p N R qq.1 (qq.2.drop (i + 1)) (i + 1) (fs ++ [nf.2])) = tot) := by rw [hnf]; exact hid_of hgo
    rw [← hnf] at hcall
    clear HI hO hgo hd hdr hnf hx13 hxW hb7 hf7
    go_wp2_with fail
    refine hcall.mono ?_
    rintro e V4 ⟨rfl, hx4⟩
    dsimp only
    obtain ⟨ce, hce⟩ : ∃ ce, ce = nf.1 := ⟨_, rfl⟩
    obtain ⟨nt, hnt⟩ : ∃ nt, nt = nf.2 := ⟨_, rfl⟩
    rw [← hce, ← hnt] at HGO ⊢
    have wo : okCells 5 nt.enc = true := Fact.ok_enc _
    have wa : seg nt.enc 0 5 = nt.enc := Fact.all_get _
    have wl : nt.enc.length = 5 := Fact.length_enc _
    have wl5 : 0 + 5 ≤ nt.enc.length := by omega
    have HX4 := hid_of hx4
    clear hcall hce hnt hx4 hb9 wl
    go_upto_region 9 with fail
    refine wp_world (fun V' => V.Extends V' ∧ blk V' V4.heap.size = some nt.enc) ⟨?_, ?_⟩ ?_
    · first | exact extends_alloc HX4.out _ | exact extends_put (extends_alloc HX4.out _) HX4.out.size _
    · first | (rw [blk_alloc, if_pos rfl]) | (rw [blk_put, if_pos rfl, blk_alloc, if_pos rfl]; rfl)
    rintro V5 ⟨hx5, hb13⟩
    obtain ⟨b13, e13⟩ : ∃ b13, b13 = V4.heap.size := ⟨_, rfl⟩
    rw [← e13] at hb13 ⊢
    clear e13
    obtain ⟨hb7, hf7⟩ := HB7.out V5 (HX13.out.trans hx5)
    by_cases hc0 : ce = 0
    rotate_left 1
    · have HP := hid_of (HZ.out V5 ce (HX13.out.trans hx5) (by
        have h9 := HGO.out
        rw [if_pos hc0] at h9
        rw [HCH.out, ← h9]
        exact if_pos hc0))
      have hcb : (ce != 0) = true := by simp [hc0]
      clear hc0 hx5
      go_wp2_with fail
      refine ret_tct (C := arr i64v (Vector.replicate 4 (0 : Int))) rfl rfl rfl rfl ?_ (by kernel_rfl) (by rw [length_arr]; kernel_rfl) rfl HP.out
      first | (rw [blk_put, if_pos rfl, hb7]; rfl) | (simp only [blk_put, if_true, hb7, Option.map_some]; try rfl)
    subst hc0
    obtain ⟨a', c', V9, hrun, ho', -⟩ := (HO.out.ext hx5).app el222 nt (by have := HO.out.2.2; omega) nt.enc.toArray rfl 1
    have HI' : Hid (∃ fs, OutG Fact.enc 5 272 V3 V9 a' (i + 1) c' fs ∧ goK p N R qq.1 (qq.2.drop (i + 1)) (i + 1) fs = tot) := ⟨_, ho', by
      have h9 := HGO.out
      rw [if_neg (fun e => e rfl)] at h9
      exact h9⟩
    clear ho' hx5 HGO hb7 hf7 HO HX4
    go_wp2_with (at_builtin; refine wpList_append_run rfl _ _ 270 rfl _ _ _ _ rfl rfl hrun ?_)
    refine ⟨rfl, rfl, ⟨rfl, rfl, rfl, rfl, i + 1, _, _, by omega, rfl, ?_, HI'⟩, ?_⟩
    · show Value.int .i64 _ = _
      go_num
    · show nl - (intOf (Value.int .i64 _)).toNat < nl - (intOf (F 12)).toNat
      rw [H12.out]
      simp [intOf]; omega
  have hin' : ¬ (i : Int) < (nl : Int) := by omega
  obtain rfl : i = nl := by omega
  have e1 : tot = (0, fs) := by
    rw [← hgo, List.drop_of_length_le (by rw [← HNL.out]; omega)]; rfl
  have hfl : fs.length = i := hO.2.2.symm
  obtain ⟨lf, hlf⟩ : ∃ lf, fs[i - 1]? = some lf := ⟨_, List.getElem?_eq_getElem (by omega)⟩
  have HCH2 : Hid (chkF p N R xs = (0, lf)) := by
    show _ = _
    have e2 : lastF fs = lf := by unfold lastF; rw [hfl, List.getD_eq_getElem?_getD, hlf]; rfl
    rw [HCH.out, e1, ← e2]; rfl
  obtain ⟨bB, CB, w1, w2, w3, w4⟩ := (hO.rw el222).2 (i - 1) lf hlf
  have wle : (i - 1) * 5 + 5 ≤ CB.length := by
    have h5 : (i - 1 + 1) * 5 ≤ i * 5 := Nat.mul_le_mul_right _ (by omega)
    omega
  have iw : IntKind.i64.wrap ((i : Int) - 1) = ((i - 1 : Nat) : Int) := by rw [IntKind.wrap_i64]; omega
  obtain ⟨j, hj⟩ : ∃ j, j = i - 1 := ⟨_, rfl⟩
  rw [← hj] at w4 wle iw
  have j0 : (0 : Int) ≤ (j : Int) := by omega
  have j1 : (j : Int) < (i : Int) := by omega
  have j2 : ((j : Int)).toNat = j := by omega
  have ij : (i : Int) - 1 = (j : Int) := by omega
  have lo : okCells 5 lf.enc = true := Fact.ok_enc _
  have lp : nth lf.enc 0 = some (.int .i64 lf.pred) := Fact.pred_get _
  have lt : seg lf.enc 1 4 = arr i64v lf.t := Fact.t_get _
  have ll : lf.enc.length = 5 := Fact.length_enc _
  have ll0 : 0 < lf.enc.length := by omega
  have ll1 : 1 + 4 ≤ lf.enc.length := by omega
  have HP : Hid (∀ V', V1.Extends V' → Q (.returned (.tuple #[.int .i64 lf.pred, .agg (arr i64v lf.t).toArray, .int .i64 0])) (put V' b7 (arr i64v lf.t))) := fun V' h => HRET.out V' 0 lf h HCH2.out
  subst w1
  have n7 : ¬ b7 = V.heap.size := by have := blk_lt hb7; omega
  have n7' : ¬ V.heap.size = b7 := by omega
  clear HI hO hgo e1 hfl hlf w3 ll hj HCH2 HCH H12
  go_upto_region 13 with fail
  refine wp_world (fun V' => V.Extends V' ∧ blk V' V.heap.size = some lf.enc) ⟨?_, ?_⟩ ?_
  · first | exact extends_alloc (ext_Ext (Ext.refl _)) _ | exact extends_put (extends_alloc (ext_Ext (Ext.refl _)) _) (Nat.le_refl _) _
  · first | (rw [blk_alloc, if_pos rfl]) | (rw [blk_put, if_pos rfl, blk_alloc, if_pos rfl]; rfl)
  rintro V6 ⟨hx6, hb15⟩
  obtain ⟨b15, e15⟩ : ∃ b15, b15 = V.heap.size := ⟨_, rfl⟩
  rw [← e15] at hb15 n7 n7' ⊢
  obtain ⟨kb7, kf7⟩ := HB7.out V6 (HX13.out.trans hx6)
  have hSd : blk V6.drew b15 = some lf.enc := hb15
  have hSp : ∀ C, blk (put V6.drew b7 C) b15 = some lf.enc := fun C => by rw [blk_put, if_neg n7']; exact hb15
  have kb7d : blk V6.drew b7 = some (arr i64v (Vector.replicate 4 (0 : Int))) := kb7
  have kf7d : free V6.drew b7 = true := kf7
  have HX6 := hid_of (HX13.out.trans hx6)
  clear e15 hx6 hb7 hf7 hb9 kb7 kf7
  refine wp_region_held_drew (S := fun W' => blk W' b15 = some lf.enc) (by kernel_rfl) hSd (fun hHeld => ?_)
  refine wpAnyH_take (i := 0) (oi := ⟨_, _, _, _, _, _⟩) (v := ?_) rfl (by kernel_rfl) (by kernel_rfl) (by kernel_rfl) (fun _ _ _ h => h) (Or.inl ⟨by rfl, ?_⟩) (by assumption) ?_
  rotate_left 1
  · intro W' hSw
    go_simp
    try with_reducible rfl
  try simp only [Act.put, List.setIfInBounds_toArray, List.set_cons_zero, List.set_cons_succ]
  refine wpAnyH_take (i := 1) (oi := ⟨_, _, _, _, _, _⟩) (v := ?_) rfl (by kernel_rfl) (by kernel_rfl) (by kernel_rfl) (fun _ _ _ h => h) (Or.inl ⟨by rfl, ?_⟩) (by assumption) ?_
  rotate_left 1
  · intro W' hSw
    go_simp
    try with_reducible rfl
  try simp only [Act.put, List.setIfInBounds_toArray, List.set_cons_zero, List.set_cons_succ]
  refine wpAnyH_take (i := 2) (oi := ⟨_, _, _, _, _, _⟩) (v := ?_) rfl (by kernel_rfl) (by kernel_rfl) (by kernel_rfl) (fun _ _ _ h => h) (Or.inl ⟨by rfl, ?_⟩) (by assumption) ?_
  rotate_left 1
  · intro W' hSw
    go_simp
    try with_reducible rfl
  try simp only [Act.put, List.setIfInBounds_toArray, List.set_cons_zero, List.set_cons_succ]
  refine wpAnyH_take (i := 3) (oi := ⟨_, _, _, _, _, _⟩) (v := ?_) rfl (by kernel_rfl) (by kernel_rfl) (by kernel_rfl) (fun _ _ _ h => h) (Or.inl ⟨by rfl, ?_⟩) (by assumption) ?_
  rotate_left 1
  · intro W' hSw
    go_simp
    try with_reducible rfl
  try simp only [Act.put, List.setIfInBounds_toArray, List.set_cons_zero, List.set_cons_succ]
  refine wpAnyH_take (i := 4) (oi := ⟨_, _, _, _, _, _⟩) (v := ?_) rfl (by kernel_rfl) (by kernel_rfl) (by kernel_rfl) (fun _ _ _ h => h) (Or.inl ⟨by rfl, ?_⟩) (by assumption) ?_
  rotate_left 1
  · intro W' hSw
    go_simp
    try with_reducible rfl
  try simp only [Act.put, List.setIfInBounds_toArray, List.set_cons_zero, List.set_cons_succ]
  refine wpAnyH_ready (rs := [5]) (by kernel_rfl) (by simp) ?_
  refine AllReadyH.cons (o := ⟨_, _, _, _, _, _⟩) rfl (fun K' hK => ?_) AllReadyH.nil
  go_simp
  refine hK.out _ _ (hSp _) (fun hHeld => ?_)
  clear hK K'
  try simp only [Act.put, List.setIfInBounds_toArray, List.set_cons_zero, List.set_cons_succ]
  refine wpAnyH_take (i := 6) (oi := ⟨_, _, _, _, _, _⟩) (v := ?_) rfl (by kernel_rfl) (by kernel_rfl) (by kernel_rfl) (fun _ _ _ h => h) (Or.inl ⟨by rfl, ?_⟩) (by assumption) ?_
  rotate_left 1
  · intro W' hSw
    go_simp
    try with_reducible rfl
  try simp only [Act.put, List.setIfInBounds_toArray, List.set_cons_zero, List.set_cons_succ]
  refine wpAnyH_done (by kernel_rfl) ?_ _
  have hb7 := kb7d
  have HP2 := hid_of (HP.out V6.drew (extends_drew HX6.out))
  clear HP
  go_wp2_with fail
  refine ret_tct (C := arr i64v lf.t) rfl rfl rfl rfl ?_ (by kernel_rfl) (by rw [length_arr]; kernel_rfl) rfl HP2.out
  first | (rw [blk_put, if_pos rfl, hb7]; rfl) | (simp only [blk_put, if_true, hb7, Option.map_some]; try rfl)

end Go.Proofs.Qxb6500787aGreat
