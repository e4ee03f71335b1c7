import Derived.Test.Qxb6500787aGreatCe
import Derived.Test.Qxb6500787aGreatCf
import Derived.Test.Qxb6500787aGreatBc

import Derived.StillTailTactics
import Derived.Deep.QuietTactic
import Derived.BigQuiet
import Derived.Deep.RegionHeld
import Derived.Deep.CutRange
import Derived.Laws.ResultCell
import Derived.Laws.Rows
import Derived.DeepKeys
import Derived.DataBytes
import Derived.Laws.StructEq
import Derived.Laws.AppendOwn
import Derived.Laws.MakeOwn
import Derived.Lib.AppendStr
set_option linter.unusedSimpArgs false
set_option linter.unusedVariables false
namespace Go.Proofs.Qxb6500787aGreat
open Go.RowKit Go.Blk
attribute [local go_sem ↓] execOp_load execOp_store execOp_alloc
attribute [local go_sem] Tryz.ld26 Tryz.st26 Tryz.ld27 Tryz.st27 Tryz.ld28 Tryz.st28 Tryz.ld3 Tryz.st3 Tryz.ld29 Tryz.st29 Tryz.ld44 Tryz.st44 Tryz.ld4 Tryz.st4 Tryz.ld50 Tryz.st50 Tryz.ld32 Tryz.st32 Tryz.ld49 Tryz.st49 Tryz.ld68 Tryz.st68 Tryz.ld9 Tryz.st9 Tryz.ld40 Tryz.st40 Tryz.ld138 Tryz.st138 Tryz.ld139 Tryz.st139 Tryz.ld146 Tryz.st146 Tryz.ld183 Tryz.st183 Tryz.ld184 Tryz.st184 Tryz.ld192 Tryz.st192 Tryz.ld195 Tryz.st195 Tryz.ld217 Tryz.st217 Tryz.ld159 Tryz.st159 Tryz.ld142 Tryz.st142 Tryz.ld2 Tryz.st2 Tryz.ld5 Tryz.st5 Tryz.ld12 Tryz.st12 Tryz.ld21 Tryz.st21 Tryz.ld22 Tryz.st22 Tryz.ld24 Tryz.st24 Tryz.ld58 Tryz.st58 Tryz.ld97 Tryz.st97 Tryz.ld101 Tryz.st101 Tryz.ld116 Tryz.st116 Tryz.ld121 Tryz.st121 Tryz.ld135 Tryz.st135 Tryz.ld136 Tryz.st136 Tryz.ld143 Tryz.st143 Tryz.ld148 Tryz.st148 Tryz.ld154 Tryz.st154 Tryz.ld173 Tryz.st173 Tryz.ld187 Tryz.st187 Tryz.ld222 Tryz.st222 Tryz.ld241 Tryz.st241 Tryz.ld248 Tryz.st248 Tryz.ld268 Tryz.st268 Tryz.ld272 Tryz.st272 Tryz.ld153 Tryz.st153 Tryz.ld255 Tryz.st255 Tryz.ld256 Tryz.st256 Tryz.ld129 Tryz.st129 Tryz.ld152 Tryz.st152 Tryz.ld31 Tryz.st31 Tryz.ld46 Tryz.st46 Tryz.ld52 Tryz.st52 Tryz.ld54 Tryz.st54 Tryz.ld60 Tryz.st60 Tryz.ld70 Tryz.st70 Tryz.ld74 Tryz.st74 Tryz.ld93 Tryz.st93 Tryz.ld141 Tryz.st141 Tryz.ld151 Tryz.st151 Tryz.ld170 Tryz.st170 Tryz.ld186 Tryz.st186 Tryz.ld189 Tryz.st189 Tryz.ld194 Tryz.st194 Tryz.ld197 Tryz.st197 Tryz.ld219 Tryz.st219 Tryz.ld224 Tryz.st224 Tryz.ld230 Tryz.st230 Tryz.ld235 Tryz.st235 Tryz.ld243 Tryz.st243 Tryz.ld247 Tryz.st247 Tryz.ld252 Tryz.st252 Tryz.ld258 Tryz.st258 Tryz.al153 Tryz.al255 Tryz.al256 Tryz.al129 Tryz.al152 Tryz.al31 Tryz.al46 Tryz.al52 Tryz.al54 Tryz.al60 Tryz.al70 Tryz.al74 Tryz.al93 Tryz.al141 Tryz.al151 Tryz.al170 Tryz.al186 Tryz.al189 Tryz.al194 Tryz.al197 Tryz.al219 Tryz.al224 Tryz.al230 Tryz.al235 Tryz.al243 Tryz.al247 Tryz.al252 Tryz.al258
attribute [local go_sem] Request.length_enc Request.ok_enc Request.all_get Request.all_set Request.kind_get Request.kind_set Request.blob_get Request.blob_set Request.items_get Request.items_set Request.pred_get Request.pred_set Request.slots_get Request.slots_set Trace.length_enc Trace.ok_enc Trace.all_get Trace.all_set Trace.op_get Trace.op_set Trace.calls_get Trace.calls_set Item.length_enc Item.ok_enc Item.all_get Item.all_set Item.del_get Item.del_set Item.pred_get Item.pred_set Item.args_get Item.args_set Reply.length_enc Reply.ok_enc Reply.all_get Reply.all_set Reply.code_get Reply.code_set Reply.kind_get Reply.kind_set Reply.index_get Reply.index_set Reply.yes_get Reply.yes_set Reply.preds_get Reply.preds_set Reply.rules_get Reply.rules_set Reply.arity_get Reply.arity_set Reply.rows_get Reply.rows_set Reply.fact_get Reply.fact_set Reply.fact_del_get Reply.fact_del_set Reply.fact_pred_get Reply.fact_pred_set Reply.fact_args_get Reply.fact_args_set GEntry.length_enc GEntry.ok_enc GEntry.all_get GEntry.all_set GEntry.seq_get GEntry.seq_set GEntry.kind_get GEntry.kind_set GEntry.code_get GEntry.code_set GOp.length_enc GOp.ok_enc GOp.all_get GOp.all_set GOp.kind_get GOp.kind_set GOp.raw_get GOp.raw_set Reader.length_enc Reader.ok_enc Reader.all_get Reader.all_set Reader.buf_get Reader.buf_set Reader.at__get Reader.at__set Slot.length_enc Slot.ok_enc Slot.all_get Slot.all_set Slot.bound_get Slot.bound_set Slot.name_get Slot.name_set Session.length_enc Session.ok_enc Session.all_get Session.all_set Session.svc_get Session.svc_set Session.buf_get Session.buf_set Session.closed_get Session.closed_set GProgram.length_enc GProgram.ok_enc GProgram.all_get GProgram.all_set GProgram.pool_get GProgram.pool_set GProgram.preds_get GProgram.preds_set GProgram.rules_get GProgram.rules_set GProgram.strata_get GProgram.strata_set PredInfo.length_enc PredInfo.ok_enc PredInfo.all_get PredInfo.all_set PredInfo.arity_get PredInfo.arity_set PredInfo.base_get PredInfo.base_set PredInfo.stratum_get PredInfo.stratum_set Change.length_enc Change.ok_enc Change.all_get Change.all_set Change.del_get Change.del_set Change.pred_get Change.pred_set Change.t_get Change.t_set Store.length_enc Store.ok_enc Store.all_get Store.all_set Store.names_get Store.names_set Store.arity_get Store.arity_set Store.rows_get Store.rows_set Src.length_enc Src.ok_enc Src.all_get Src.all_set Src.b_get Src.b_set Src.at__get Src.at__set Atom.length_enc Atom.ok_enc Atom.all_get Atom.all_set Atom.pred_get Atom.pred_set Atom.args_get Atom.args_set GRule.length_enc GRule.ok_enc GRule.all_get GRule.all_set GRule.head_get GRule.head_set GRule.body_get GRule.body_set GRule.head_pred_get GRule.head_pred_set GRule.head_args_get GRule.head_args_set Cert.length_enc Cert.ok_enc Cert.all_get Cert.all_set Cert.names_get Cert.names_set Cert.nodes_get Cert.nodes_set Fact.length_enc Fact.ok_enc Fact.all_get Fact.all_set Fact.pred_get Fact.pred_set Fact.t_get Fact.t_set Literal.length_enc Literal.ok_enc Literal.all_get Literal.all_set Literal.neg_get Literal.neg_set Literal.atom_get Literal.atom_set Literal.atom_pred_get Literal.atom_pred_set Literal.atom_args_get Literal.atom_args_set Engine.length_enc Engine.ok_enc Engine.all_get Engine.all_set Engine.prog_get Engine.prog_set Engine.st_get Engine.st_set SrcCertm.length_enc SrcCertm.ok_enc SrcCertm.all_get SrcCertm.all_set SrcCertm.b_get SrcCertm.b_set SrcCertm.at__get SrcCertm.at__set GNode.length_enc GNode.ok_enc GNode.all_get GNode.all_set GNode.rule_get GNode.rule_set GNode.pred_get GNode.pred_set GNode.vals_get GNode.vals_set GNode.refs_get GNode.refs_set Term.length_enc Term.ok_enc Term.all_get Term.all_set Term.var_get Term.var_set Term.n_get Term.n_set Env.length_enc Env.ok_enc Env.all_get Env.all_set Env.val_get Env.val_set Env.set_get Env.set_set
attribute [local go_sem] size_put size_ext blk_put free_put blk_alloc free_alloc blk_drew free_drew blk_ext free_ext lookOr_some putOr_some segAt_some cellAt_some storeIn_some put_put put_alloc_new length_arr ok_arr_u8 ok_arr_u32 ok_arr_u64 ok_arr_i64 ok_arr_sl cellsV_agg cellsV_int cellsV_bool cellsV_string cellsV_pointer cellsV_slice cellsV_sl ok_int ok_bool ok_string ok_pointer ok_slice ok_sl toList_arr seg_arr set_arr nth_splice nth_splice0 seg_splice seg_splice0 splice_splice splice_splice0 length_splice_if
attribute [local go_sem ↓] execOp_box
attribute [local go_sem] box_run nth_arr_u8 put_arr_u8 blk_drewN free_drewN put_drewN blk_raw free_raw
/-- Nothing at the start. -/
theorem bas_empty (p : PP) (q : Nat) : rowsAt (basR p (List.replicate p.preds.length [])) q = [] := by
  by_cases hl : q < p.preds.length
  · rw [rowsAt_some (basR_at p _ hl)]
    have : rowsAt (List.replicate p.preds.length ([] : List Tup)) q = [] := by
      unfold rowsAt
      rw [List.getD_eq_getElem?_getD, List.getElem?_replicate, if_pos hl]; rfl
    rw [this]
    cases (pI p q).base <;> rfl
  · unfold rowsAt
    rw [List.getD_eq_getElem?_getD, List.getElem?_eq_none (by rw [basR_len]; omega)]; rfl
theorem fac_empty (n q : Nat) : (List.replicate n ([] : List NRow)).getD q [] = [] := by
  rw [List.getD_eq_getElem?_getD, List.getElem?_replicate]
  split <;> rfl
theorem bas_inv (p : PP) : RInv p (basR p (List.replicate p.preds.length [])) := by
  refine ⟨fun L hL => ?_, basR_len _ _⟩
  obtain ⟨q, hq⟩ := List.mem_iff_getElem?.1 hL
  have h1 := bas_empty p q
  unfold rowsAt at h1
  rw [List.getD_eq_getElem?_getD, hq] at h1
  have h2 : L = [] := h1
  rw [h2]
  exact ⟨List.nodup_nil, fun t ht => by cases ht⟩
theorem verR_pgV {p p' : PP} (hd : DecOk p) (h : VerR p 0 p') : PgV p' := by
  have hg := pgG_of hd h
  obtain ⟨-, -, hr, hs, hv⟩ := verR_ok hd h
  have hl : ∀ r ∈ p.rules, r.head.pred < p.preds.length := by
    have h2 : p.rules.all (rlB p) = true := by
      cases hb : p.rules.all (rlB p) with
      | true => rfl
      | false =>
        unfold verC at hv
        by_cases e : limB p = false
        · rw [if_pos e] at hv; cases hv
        · rw [if_neg e, if_pos hb] at hv; cases hv
    exact (rlB_preds h2).1
  obtain ⟨h1, h2⟩ := verR_strata h hl
  exact ⟨hg, h1, h2⟩
/-- The first model: service and model agree. -/
theorem fst_same {p : PP} (hp : PgV p) {P : List (List Tup)} (hF : Fst p P) {F1 : List (List NRow)} {T1 : List NStep} (hQ : PfTo p (constF p.pool (List.replicate p.preds.length [])) 0 (List.replicate p.preds.length []) [] F1 T1) : overB P = overN F1 ∧ (overB P = false → Tells p p.pool P F1) := by
  have h := perf_same hp hp.g.pool.1 (List.prefix_refl _) hF.1 (bas_inv p) (fun q t ht => by rw [bas_empty] at ht; cases ht) hQ (List.length_replicate ..) (fun q => by rw [fac_empty]; exact List.nodup_nil) (fun q x => by
    unfold memN memI
    rw [fac_empty, bas_empty]
    exact ⟨fun h => (by cases h), fun ⟨t, h, _⟩ => (by cases h)⟩)
  exact ⟨h.1, h.2.1⟩
/-- A policy offered. -/
theorem svR.load {s s' : Sv} {raw : List UInt8} {q : PRep} (h0 : (decF raw).1 = 0) (hk : (decF raw).2.kind = 1) (h : svR s raw q s') : (q.code ≠ 0 → s'.inst = s.inst ∧ s'.img = s.img) ∧ ((decP (decF raw).2.blob).1 ≠ 0 → q.code ≠ 0) ∧ ((decP (decF raw).2.blob).1 = 0 → ∀ c, AcR (decP (decF raw).2.blob).2 c → (c ≠ 0 → q.code ≠ 0) ∧ (c = 0 → ∀ vc p', VerR (decP (decF raw).2.blob).2 vc p' → vc = 0 ∧ PgV p' ∧ ∀ F1 T1, PfTo p' (constF p'.pool (List.replicate p'.preds.length [])) 0 (List.replicate p'.preds.length []) [] F1 T1 → (q.code = 0 ↔ overN F1 = false) ∧ (q.code = 0 → ∃ P, Fst p' P ∧ s'.inst = some (newS p' P p'.pool.length) ∧ s'.img = (decF raw).2.blob))) := by
  obtain ⟨s1, h, rfl⟩ := h
  rcases h with ⟨h, -⟩ | ⟨-, h⟩
  · exact absurd h0 h
  rcases h with ⟨-, rep, hP, rfl⟩ | ⟨h, -⟩ | ⟨t, -, h⟩
  rotate_left 1
  · exact absurd hk h
  · rcases h with ⟨e, -⟩ | ⟨e, -⟩ | ⟨e, -⟩ | ⟨e, -⟩ | ⟨e, -⟩ | ⟨e, -⟩ <;> (rw [hk] at e; cases e)
  have hcode : ∀ c k i, (plR (repZ c k i)).code = c := fun _ _ _ => rfl
  rcases hP with ⟨h1, rfl, rfl⟩ | ⟨h1, vc, p', hv, hP⟩
  · exact ⟨fun _ => ⟨rfl, rfl⟩, fun _ => by rw [hcode]; exact h1, fun e => absurd e h1⟩
  have hdk := decP_ok h1
  rcases hP with ⟨h2, rfl, rfl⟩ | ⟨rfl, P, hF, hP⟩
  · refine ⟨fun _ => ⟨rfl, rfl⟩, fun e => absurd h1 e, fun _ c hc => ⟨fun _ => by rw [hcode]; exact h2, fun e => ?_⟩⟩
    have := ac_ver hdk hc hv
    exact absurd (this.symm.trans e) h2
  have hpm := verR_pgV hdk hv
  have hdet : ∀ vc2 p2, VerR (decP (decF raw).2.blob).2 vc2 p2 → vc2 = 0 ∧ p2 = p' := fun vc2 p2 h2 => by
    obtain ⟨e1, e2⟩ := hv.det h2
    exact ⟨e1.symm, (e2 rfl).symm⟩
  rcases hP with ⟨ho, rfl, rfl⟩ | ⟨ho, rfl, rfl⟩
  · refine ⟨fun _ => ⟨rfl, rfl⟩, fun e => absurd h1 e, fun _ c hc => ⟨fun e => absurd (ac_ver hdk hc hv) e, fun _ vc2 p2 hv2 => ?_⟩⟩
    obtain ⟨e1, e2⟩ := hdet vc2 p2 hv2
    subst e2
    refine ⟨e1, hpm, fun F1 T1 hQ => ?_⟩
    obtain ⟨k1, -⟩ := fst_same hpm hF hQ
    rw [ho] at k1
    have hc16 : (plR (repZ 16 1 (-1))).code = 16 := rfl
    refine ⟨⟨fun e => ?_, fun e => ?_⟩, fun e => ?_⟩
    · rw [hc16] at e; cases e
    · rw [← k1] at e; cases e
    · rw [hc16] at e; cases e
  · have hc0 : (plR (ldP p')).code = 0 := rfl
    refine ⟨fun e => absurd hc0 e, fun e => absurd h1 e, fun _ c hc => ⟨fun e => absurd (ac_ver hdk hc hv) e, fun _ vc2 p2 hv2 => ?_⟩⟩
    obtain ⟨e1, e2⟩ := hdet vc2 p2 hv2
    subst e2
    refine ⟨e1, hpm, fun F1 T1 hQ => ?_⟩
    obtain ⟨k1, -⟩ := fst_same hpm hF hQ
    rw [ho] at k1
    exact ⟨⟨fun _ => k1.symm, fun _ => hc0⟩, fun _ => ⟨P, hF, rfl, rfl⟩⟩
/-- The base relations of a new policy are empty. -/
theorem fst_base {p : PP} (hp : PgV p) {P : List (List Tup)} (hF : Fst p P) {q : Nat} (hb : (pI p q).base = true) : rowsAt P q = [] := by
  rw [hF.1.base hp.g.nob hb]
  exact bas_empty p q
end Go.Proofs.Qxb6500787aGreat
