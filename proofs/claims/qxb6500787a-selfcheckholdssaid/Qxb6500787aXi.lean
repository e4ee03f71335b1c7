import Derived.Test.Qxb6500787aXh
import Derived.StillTailTactics
import Derived.Deep.QuietTactic
import Derived.BigQuiet
import Derived.Deep.RegionHeld
import Derived.Deep.CutRange
import Derived.Laws.ResultCell
import Derived.Laws.Rows
import Derived.DeepKeys
import Derived.DataBytes
import Derived.Laws.StructEq
import Derived.Laws.AppendOwn
import Derived.Laws.MakeOwn
import Derived.Lib.AppendStr
set_option linter.unusedSimpArgs false
set_option linter.unusedVariables false
namespace Go.Proofs.Qxb6500787a
open Go.RowKit Go.Blk
attribute [local go_sem ↓] execOp_load execOp_store execOp_alloc
attribute [local go_sem] Try.ld26 Try.st26 Try.ld27 Try.st27 Try.ld28 Try.st28 Try.ld3 Try.st3 Try.ld29 Try.st29 Try.ld44 Try.st44 Try.ld4 Try.st4 Try.ld50 Try.st50 Try.ld32 Try.st32 Try.ld49 Try.st49 Try.ld68 Try.st68 Try.ld9 Try.st9 Try.ld40 Try.st40 Try.ld138 Try.st138 Try.ld139 Try.st139 Try.ld146 Try.st146 Try.ld183 Try.st183 Try.ld184 Try.st184 Try.ld192 Try.st192 Try.ld195 Try.st195 Try.ld217 Try.st217 Try.ld159 Try.st159 Try.ld142 Try.st142 Try.ld2 Try.st2 Try.ld5 Try.st5 Try.ld12 Try.st12 Try.ld21 Try.st21 Try.ld22 Try.st22 Try.ld24 Try.st24 Try.ld58 Try.st58 Try.ld63 Try.st63 Try.ld97 Try.st97 Try.ld101 Try.st101 Try.ld116 Try.st116 Try.ld121 Try.st121 Try.ld135 Try.st135 Try.ld136 Try.st136 Try.ld143 Try.st143 Try.ld148 Try.st148 Try.ld154 Try.st154 Try.ld173 Try.st173 Try.ld187 Try.st187 Try.ld222 Try.st222 Try.ld241 Try.st241 Try.ld248 Try.st248 Try.ld268 Try.st268 Try.ld272 Try.st272 Try.ld153 Try.st153 Try.ld255 Try.st255 Try.ld256 Try.st256 Try.ld129 Try.st129 Try.ld152 Try.st152 Try.ld31 Try.st31 Try.ld46 Try.st46 Try.ld52 Try.st52 Try.ld54 Try.st54 Try.ld60 Try.st60 Try.ld70 Try.st70 Try.ld74 Try.st74 Try.ld93 Try.st93 Try.ld119 Try.st119 Try.ld141 Try.st141 Try.ld151 Try.st151 Try.ld170 Try.st170 Try.ld186 Try.st186 Try.ld189 Try.st189 Try.ld194 Try.st194 Try.ld197 Try.st197 Try.ld219 Try.st219 Try.ld224 Try.st224 Try.ld230 Try.st230 Try.ld235 Try.st235 Try.ld243 Try.st243 Try.ld247 Try.st247 Try.ld252 Try.st252 Try.ld258 Try.st258 Try.al153 Try.al255 Try.al256 Try.al129 Try.al152 Try.al31 Try.al46 Try.al52 Try.al54 Try.al60 Try.al70 Try.al74 Try.al93 Try.al119 Try.al141 Try.al151 Try.al170 Try.al186 Try.al189 Try.al194 Try.al197 Try.al219 Try.al224 Try.al230 Try.al235 Try.al243 Try.al247 Try.al252 Try.al258
attribute [local go_sem] Request.length_enc Request.ok_enc Request.all_get Request.all_set Request.kind_get Request.kind_set Request.blob_get Request.blob_set Request.items_get Request.items_set Request.pred_get Request.pred_set Request.slots_get Request.slots_set Trace.length_enc Trace.ok_enc Trace.all_get Trace.all_set Trace.op_get Trace.op_set Trace.calls_get Trace.calls_set Item.length_enc Item.ok_enc Item.all_get Item.all_set Item.del_get Item.del_set Item.pred_get Item.pred_set Item.args_get Item.args_set Reply.length_enc Reply.ok_enc Reply.all_get Reply.all_set Reply.code_get Reply.code_set Reply.kind_get Reply.kind_set Reply.index_get Reply.index_set Reply.yes_get Reply.yes_set Reply.preds_get Reply.preds_set Reply.rules_get Reply.rules_set Reply.arity_get Reply.arity_set Reply.rows_get Reply.rows_set Reply.fact_get Reply.fact_set Reply.fact_del_get Reply.fact_del_set Reply.fact_pred_get Reply.fact_pred_set Reply.fact_args_get Reply.fact_args_set GEntry.length_enc GEntry.ok_enc GEntry.all_get GEntry.all_set GEntry.seq_get GEntry.seq_set GEntry.kind_get GEntry.kind_set GEntry.code_get GEntry.code_set GOp.length_enc GOp.ok_enc GOp.all_get GOp.all_set GOp.kind_get GOp.kind_set GOp.raw_get GOp.raw_set Reader.length_enc Reader.ok_enc Reader.all_get Reader.all_set Reader.buf_get Reader.buf_set Reader.at__get Reader.at__set Slot.length_enc Slot.ok_enc Slot.all_get Slot.all_set Slot.bound_get Slot.bound_set Slot.name_get Slot.name_set Session.length_enc Session.ok_enc Session.all_get Session.all_set Session.svc_get Session.svc_set Session.buf_get Session.buf_set Session.closed_get Session.closed_set GProgram.length_enc GProgram.ok_enc GProgram.all_get GProgram.all_set GProgram.pool_get GProgram.pool_set GProgram.preds_get GProgram.preds_set GProgram.rules_get GProgram.rules_set GProgram.strata_get GProgram.strata_set PredInfo.length_enc PredInfo.ok_enc PredInfo.all_get PredInfo.all_set PredInfo.arity_get PredInfo.arity_set PredInfo.base_get PredInfo.base_set PredInfo.stratum_get PredInfo.stratum_set Change.length_enc Change.ok_enc Change.all_get Change.all_set Change.del_get Change.del_set Change.pred_get Change.pred_set Change.t_get Change.t_set Store.length_enc Store.ok_enc Store.all_get Store.all_set Store.names_get Store.names_set Store.arity_get Store.arity_set Store.rows_get Store.rows_set Src.length_enc Src.ok_enc Src.all_get Src.all_set Src.b_get Src.b_set Src.at__get Src.at__set Atom.length_enc Atom.ok_enc Atom.all_get Atom.all_set Atom.pred_get Atom.pred_set Atom.args_get Atom.args_set GRule.length_enc GRule.ok_enc GRule.all_get GRule.all_set GRule.head_get GRule.head_set GRule.body_get GRule.body_set GRule.head_pred_get GRule.head_pred_set GRule.head_args_get GRule.head_args_set Cert.length_enc Cert.ok_enc Cert.all_get Cert.all_set Cert.names_get Cert.names_set Cert.nodes_get Cert.nodes_set Fact.length_enc Fact.ok_enc Fact.all_get Fact.all_set Fact.pred_get Fact.pred_set Fact.t_get Fact.t_set Literal.length_enc Literal.ok_enc Literal.all_get Literal.all_set Literal.neg_get Literal.neg_set Literal.atom_get Literal.atom_set Literal.atom_pred_get Literal.atom_pred_set Literal.atom_args_get Literal.atom_args_set Engine.length_enc Engine.ok_enc Engine.all_get Engine.all_set Engine.prog_get Engine.prog_set Engine.st_get Engine.st_set SrcCertm.length_enc SrcCertm.ok_enc SrcCertm.all_get SrcCertm.all_set SrcCertm.b_get SrcCertm.b_set SrcCertm.at__get SrcCertm.at__set GNode.length_enc GNode.ok_enc GNode.all_get GNode.all_set GNode.rule_get GNode.rule_set GNode.pred_get GNode.pred_set GNode.vals_get GNode.vals_set GNode.refs_get GNode.refs_set Term.length_enc Term.ok_enc Term.all_get Term.all_set Term.var_get Term.var_set Term.n_get Term.n_set Env.length_enc Env.ok_enc Env.all_get Env.all_set Env.val_get Env.val_set Env.set_get Env.set_set
attribute [local go_sem] size_put size_ext blk_put free_put blk_alloc free_alloc blk_drew free_drew blk_ext free_ext lookOr_some putOr_some segAt_some cellAt_some storeIn_some put_put put_alloc_new length_arr ok_arr_u8 ok_arr_u32 ok_arr_u64 ok_arr_i64 ok_arr_sl cellsV_agg cellsV_int cellsV_bool cellsV_string cellsV_pointer cellsV_slice cellsV_sl ok_int ok_bool ok_string ok_pointer ok_slice ok_sl toList_arr seg_arr set_arr nth_splice nth_splice0 seg_splice seg_splice0 splice_splice splice_splice0 length_splice_if
attribute [local go_sem ↓] execOp_box
attribute [local go_sem] box_run nth_arr_u8 put_arr_u8 blk_drewN free_drewN put_drewN blk_raw free_raw
theorem Fst.det {p : PP} {P P' : List (List Tup)} (h : Fst p P) (h' : Fst p P') : P = P' := by
  unfold Fst at h h'
  exact PerfTo.det h.1 h'.1
theorem ColR.det {s : InsS} {c c' : Int} {s1 s2 : InsS} (h : ColR s c s1) (h' : ColR s c' s2) : c = c' ∧ (c = 0 → s1 = s2) := by
  obtain ⟨P, hP, h⟩ := h
  obtain ⟨P', hP', h'⟩ := h'
  have e := hP.det hP'
  subst e
  rcases h with ⟨a1, a2⟩ | ⟨a1, ⟨a2, a3⟩ | ⟨a2, ix, R', a3, a4⟩⟩
  · rcases h' with ⟨b1, b2⟩ | ⟨b1, -⟩
    · exact ⟨a2.trans b2.symm, fun e => by rw [a2] at e; cases e⟩
    · rw [a1] at b1; cases b1
  · rcases h' with ⟨b1, -⟩ | ⟨b1, ⟨b2, b3⟩ | ⟨b2, -⟩⟩
    · rw [a1] at b1; cases b1
    · exact ⟨a2.trans b2.symm, fun e => absurd e a3⟩
    · exact absurd (a2.trans b2) a3
  · rcases h' with ⟨b1, -⟩ | ⟨b1, ⟨b2, b3⟩ | ⟨b2, ix', R'', b3, b4⟩⟩
    · rw [a1] at b1; cases b1
    · exact absurd (b2.trans a2) b3
    · obtain ⟨e1, -, e3⟩ := a3.det b3
      subst e1 e3
      exact ⟨rfl, fun e => (a4 e).trans (b4 e).symm⟩
theorem MrR.det {s : InsS} {L : List It} {c c' : Int} {s1 s2 : InsS} {co co' : Int} (h : MrR s L c s1 co) (h' : MrR s L c' s2 co') : c = c' ∧ s1 = s2 ∧ co = co' := by
  rcases h with ⟨a1, a2, a3, a4⟩ | ⟨a1, a0, a2, a3, a4⟩ | ⟨a1, a0, cc, t1, hC, ha⟩
  · rcases h' with ⟨b1, b2, b3, b4⟩ | ⟨b1, -⟩ | ⟨b1, -⟩
    · exact ⟨a2.trans b2.symm, a3.trans b3.symm, a4.trans b4.symm⟩
    · exact absurd a1 b1
    · exact absurd a1 b1
  · rcases h' with ⟨b1, -⟩ | ⟨b1, b0, b2, b3, b4⟩ | ⟨b1, b0, -⟩
    · exact absurd b1 a1
    · exact ⟨a2.trans b2.symm, a3.trans b3.symm, a4.trans b4.symm⟩
    · exact absurd a0 b0
  · rcases h' with ⟨b1, -⟩ | ⟨b1, b0, -⟩ | ⟨b1, b0, cc', t2, hC', hb⟩
    · exact absurd b1 a1
    · exact absurd b0 a0
    · obtain ⟨e1, e2⟩ := hC.det hC'
      subst e1
      rcases ha with ⟨a2, a3, a4, a5⟩ | ⟨a2, a3, a4, a5⟩
      · rcases hb with ⟨b2, b3, b4, b5⟩ | ⟨b2, -⟩
        · exact ⟨a3.trans b3.symm, a4.trans b4.symm, a5.trans b5.symm⟩
        · exact absurd b2 a2
      · rcases hb with ⟨b2, -⟩ | ⟨b2, b3, b4, b5⟩
        · exact absurd a2 b2
        · exact ⟨a3.trans b3.symm, a4.trans ((e2 a2).trans b4.symm), a5.trans b5.symm⟩
theorem inR.det {s : Sv} {t : InsS} {pr : Nat} {args : List (List UInt8)} {r1 r2 : Reply} {s1 s2 : Sv} (h : inR s t pr args r1 s1) (h' : inR s t pr args r2 s2) : r1 = r2 ∧ s1 = s2 := by
  rcases h with ⟨a1, a2, a3⟩ | ⟨a1, mc, t1, co, hm, ha⟩
  · rcases h' with ⟨b1, b2, b3⟩ | ⟨b1, -⟩
    · exact ⟨a2.trans b2.symm, a3.trans b3.symm⟩
    · exact absurd b1 a1
  · rcases h' with ⟨b1, -⟩ | ⟨b1, mc', t2, co', hm', hb⟩
    · exact absurd a1 b1
    obtain ⟨e1, e2, e3⟩ := hm.det hm'
    subst e1 e2 e3
    rcases ha with ⟨a2, a3, a4⟩ | ⟨a2, ha⟩
    · rcases hb with ⟨b2, b3, b4⟩ | ⟨b2, -⟩
      · exact ⟨a3.trans b3.symm, a4.trans b4.symm⟩
      · exact absurd b2 a2
    · rcases hb with ⟨b2, -⟩ | ⟨b2, hb⟩
      · exact absurd a2 b2
      rcases ha with ⟨a3, a4, a5⟩ | ⟨a3, code, ix, R', hB, ha⟩
      · rcases hb with ⟨b3, b4, b5⟩ | ⟨b3, -⟩
        · exact ⟨a4.trans b4.symm, a5.trans b5.symm⟩
        · exact absurd b3 a3
      · rcases hb with ⟨b3, -⟩ | ⟨b3, code', ix', R'', hB', hb⟩
        · exact absurd a3 b3
        obtain ⟨e1, e2, e3⟩ := hB.det hB'
        subst e1 e2 e3
        rcases ha with ⟨a4, a5, a6⟩ | ⟨a4, a5, a6⟩
        · rcases hb with ⟨b4, b5, b6⟩ | ⟨b4, -⟩
          · exact ⟨a5.trans b5.symm, a6.trans b6.symm⟩
          · exact absurd b4 a4
        · rcases hb with ⟨b4, -⟩ | ⟨b4, b5, b6⟩
          · exact absurd a4 b4
          · exact ⟨a5.trans b5.symm, a6.trans b6.symm⟩
theorem btR.det {s : Sv} {t : InsS} {L : List It} {r1 r2 : Reply} {s1 s2 : Sv} (h : btR s t L r1 s1) (h' : btR s t L r2 s2) : r1 = r2 ∧ s1 = s2 := by
  rcases h with ⟨c, i, a1, a2, a3⟩ | ⟨a1, mc, t1, co, hm, ha⟩
  · rcases h' with ⟨c', i', b1, b2, b3⟩ | ⟨b1, -⟩
    · rw [a1] at b1
      have e := Option.some.inj b1
      have e1 : c = c' := congrArg Prod.fst e
      have e2 : i = i' := congrArg Prod.snd e
      subst e1 e2
      exact ⟨a2.trans b2.symm, a3.trans b3.symm⟩
    · rw [a1] at b1; cases b1
  · rcases h' with ⟨c', i', b1, -⟩ | ⟨b1, mc', t2, co', hm', hb⟩
    · rw [a1] at b1; cases b1
    obtain ⟨e1, e2, e3⟩ := hm.det hm'
    subst e1 e2 e3
    rcases ha with ⟨a2, a3, a4⟩ | ⟨a2, ha⟩
    · rcases hb with ⟨b2, b3, b4⟩ | ⟨b2, -⟩
      · exact ⟨a3.trans b3.symm, a4.trans b4.symm⟩
      · exact absurd b2 a2
    · rcases hb with ⟨b2, -⟩ | ⟨b2, hb⟩
      · exact absurd a2 b2
      rcases ha with ⟨a3, a4, a5⟩ | ⟨a3, code, ix, R', hB, ha⟩
      · rcases hb with ⟨b3, b4, b5⟩ | ⟨b3, -⟩
        · exact ⟨a4.trans b4.symm, a5.trans b5.symm⟩
        · exact absurd b3 a3
      · rcases hb with ⟨b3, -⟩ | ⟨b3, code', ix', R'', hB', hb⟩
        · exact absurd a3 b3
        obtain ⟨e1, e2, e3⟩ := hB.det hB'
        subst e1 e2 e3
        rcases ha with ⟨a4, a5, a6⟩ | ⟨a4, a5, a6⟩
        · rcases hb with ⟨b4, b5, b6⟩ | ⟨b4, -⟩
          · exact ⟨a5.trans b5.symm, a6.trans b6.symm⟩
          · exact absurd b4 a4
        · rcases hb with ⟨b4, -⟩ | ⟨b4, b5, b6⟩
          · exact absurd a4 b4
          · exact ⟨a5.trans b5.symm, a6.trans b6.symm⟩
theorem VerR.det {p : PP} {c c' : Int} {p1 p2 : PP} (h : VerR p c p1) (h' : VerR p c' p2) : c = c' ∧ (c = 0 → p1 = p2) := by
  rcases h with ⟨a1, a2⟩ | ⟨a1, res, hS, ha⟩
  · rcases h' with ⟨b1, b2⟩ | ⟨b1, -⟩
    · exact ⟨a2.trans b2.symm, fun e => absurd (a2.symm.trans e) a1⟩
    · exact absurd b1 a1
  · rcases h' with ⟨b1, -⟩ | ⟨b1, res', hS', hb⟩
    · exact absurd a1 b1
    have e := hS.det hS'
    subst e
    rcases ha with ⟨a2, a3⟩ | ⟨ps, a2, -, -, a3, a4⟩
    · rcases hb with ⟨b2, b3⟩ | ⟨ps', b2, -⟩
      · exact ⟨a3.trans b3.symm, fun e => by rw [a3] at e; cases e⟩
      · rw [a2] at b2; cases b2
    · rcases hb with ⟨b2, b3⟩ | ⟨ps', b2, -, -, b3, b4⟩
      · rw [a2] at b2; cases b2
      · rw [a2] at b2
        have e := Option.some.inj b2
        subst e
        exact ⟨a3.trans b3.symm, fun _ => a4.trans b4.symm⟩
theorem ldR.det {s : Sv} {xs : List UInt8} {r1 r2 : Reply} {s1 s2 : Sv} (h : ldR s xs r1 s1) (h' : ldR s xs r2 s2) : r1 = r2 ∧ s1 = s2 := by
  rcases h with ⟨a1, a2, a3⟩ | ⟨a1, vc, p1, hV, ha⟩
  · rcases h' with ⟨b1, b2, b3⟩ | ⟨b1, -⟩
    · exact ⟨a2.trans b2.symm, a3.trans b3.symm⟩
    · exact absurd b1 a1
  · rcases h' with ⟨b1, -⟩ | ⟨b1, vc', p2, hV', hb⟩
    · exact absurd a1 b1
    obtain ⟨e1, e2⟩ := hV.det hV'
    subst e1
    rcases ha with ⟨a2, a3, a4⟩ | ⟨a2, P, hF, ha⟩
    · rcases hb with ⟨b2, b3, b4⟩ | ⟨b2, -⟩
      · exact ⟨a3.trans b3.symm, a4.trans b4.symm⟩
      · exact absurd b2 a2
    · rcases hb with ⟨b2, -⟩ | ⟨b2, P', hF', hb⟩
      · exact absurd a2 b2
      have e3 := e2 a2
      subst e3
      have e4 := hF.det hF'
      subst e4
      rcases ha with ⟨a3, a4, a5⟩ | ⟨a3, a4, a5⟩
      · rcases hb with ⟨b3, b4, b5⟩ | ⟨b3, -⟩
        · exact ⟨a4.trans b4.symm, a5.trans b5.symm⟩
        · rw [a3] at b3; cases b3
      · rcases hb with ⟨b3, -⟩ | ⟨b3, b4, b5⟩
        · rw [a3] at b3; cases b3
        · exact ⟨a4.trans b4.symm, a5.trans b5.symm⟩
theorem PZ.det {P : Reply → Sv → Prop} (hP : ∀ r1 r2 s1 s2, P r1 s1 → P r2 s2 → r1 = r2 ∧ s1 = s2) {q1 q2 : PRep} {s1 s2 : Sv} (h : PZ P q1 s1) (h' : PZ P q2 s2) : q1 = q2 ∧ s1 = s2 := by
  obtain ⟨r1, a1, rfl⟩ := h
  obtain ⟨r2, b1, rfl⟩ := h'
  obtain ⟨rfl, rfl⟩ := hP _ _ _ _ a1 b1
  exact ⟨rfl, rfl⟩
theorem dsR.det {s : Sv} {q : Rq} {r1 r2 : PRep} {s1 s2 : Sv} (h : dsR s q r1 s1) (h' : dsR s q r2 s2) : r1 = r2 ∧ s1 = s2 := by
  rcases h with ⟨a1, ha⟩ | ⟨a1, a2, a3, a4⟩ | ⟨t, ht, ha⟩
  · rcases h' with ⟨b1, hb⟩ | ⟨b1, -⟩ | ⟨t', ht', hb⟩
    · exact PZ.det (fun _ _ _ _ x y => ldR.det x y) ha hb
    · exact absurd a1 b1
    · rcases hb with ⟨b1, -⟩ | ⟨b1, -⟩ | ⟨b1, -⟩ | ⟨b1, -⟩ | ⟨b1, -⟩ | ⟨b1, -⟩ <;> (rw [a1] at b1; cases b1)
  · rcases h' with ⟨b1, hb⟩ | ⟨b1, b2, b3, b4⟩ | ⟨t', ht', hb⟩
    · exact absurd b1 a1
    · exact ⟨a3.trans b3.symm, a4.trans b4.symm⟩
    · rw [a2] at ht'; cases ht'
  · rcases h' with ⟨b1, hb⟩ | ⟨b1, b2, b3, b4⟩ | ⟨t', ht', hb⟩
    · rcases ha with ⟨a1, -⟩ | ⟨a1, -⟩ | ⟨a1, -⟩ | ⟨a1, -⟩ | ⟨a1, -⟩ | ⟨a1, -⟩ <;> (rw [b1] at a1; cases a1)
    · rw [b2] at ht; cases ht
    · have e : t = t' := Option.some.inj (ht.symm.trans ht')
      subst e
      rcases ha with ⟨a1, ha⟩ | ⟨a1, ha⟩ | ⟨a1, ha⟩ | ⟨a1, ha⟩ | ⟨a1, ha⟩ | ⟨a1, ha⟩ <;> rcases hb with ⟨b1, hb⟩ | ⟨b1, hb⟩ | ⟨b1, hb⟩ | ⟨b1, hb⟩ | ⟨b1, hb⟩ | ⟨b1, hb⟩
      all_goals first
        | (exfalso; rw [a1] at b1; cases b1; done)
        | exact PZ.det (fun _ _ _ _ x y => inR.det x y) ha hb
        | exact PZ.det (fun _ _ _ _ x y => rmR.det x y) ha hb
        | exact PZ.det (fun _ _ _ _ x y => btR.det x y) ha hb
        | exact PZ.det (fun _ _ _ _ x y => by have e := x.trans y.symm; exact ⟨congrArg Prod.fst e, congrArg Prod.snd e⟩) ha hb
        | exact ⟨ha.1.trans hb.1.symm, ha.2.trans hb.2.symm⟩
/-- The service answers a request in one way. -/
theorem svR.det {s : Sv} {raw : List UInt8} {q1 q2 : PRep} {s1 s2 : Sv} (h : svR s raw q1 s1) (h' : svR s raw q2 s2) : q1 = q2 ∧ s1 = s2 := by
  obtain ⟨t1, h, rfl⟩ := h
  obtain ⟨t2, h', rfl⟩ := h'
  rcases h with ⟨a1, a2, a3⟩ | ⟨a1, ha⟩
  · rcases h' with ⟨b1, b2, b3⟩ | ⟨b1, -⟩
    · rw [a2, b2, a3, b3]; exact ⟨rfl, rfl⟩
    · exact absurd b1 a1
  · rcases h' with ⟨b1, -⟩ | ⟨b1, hb⟩
    · exact absurd a1 b1
    · obtain ⟨e1, e2⟩ := dsR.det ha hb
      rw [e1, e2]; exact ⟨rfl, rfl⟩
end Go.Proofs.Qxb6500787a
