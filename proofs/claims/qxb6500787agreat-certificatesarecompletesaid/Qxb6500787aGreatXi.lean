
import Derived.Test.Qxb6500787aGreatXh
import Derived.StillTailTactics
import Derived.Deep.QuietTactic
import Derived.BigQuiet
import Derived.Deep.RegionHeld
import Derived.Deep.CutRange
import Derived.Laws.ResultCell
import Derived.Laws.Rows
import Derived.DeepKeys
import Derived.DataBytes
import Derived.Laws.StructEq
import Derived.Laws.AppendOwn
import Derived.Laws.MakeOwn
import Derived.Lib.AppendStr
set_option linter.unusedSimpArgs false
set_option linter.unusedVariables false
namespace Go.Proofs.Qxb6500787aGreat
open Go.RowKit Go.Blk
attribute [local go_sem ↓] execOp_load execOp_store execOp_alloc
attribute [local go_sem] Tryz.ld26 Tryz.st26 Tryz.ld27 Tryz.st27 Tryz.ld28 Tryz.st28 Tryz.ld3 Tryz.st3 Tryz.ld29 Tryz.st29 Tryz.ld44 Tryz.st44 Tryz.ld4 Tryz.st4 Tryz.ld50 Tryz.st50 Tryz.ld32 Tryz.st32 Tryz.ld49 Tryz.st49 Tryz.ld68 Tryz.st68 Tryz.ld9 Tryz.st9 Tryz.ld40 Tryz.st40 Tryz.ld138 Tryz.st138 Tryz.ld139 Tryz.st139 Tryz.ld146 Tryz.st146 Tryz.ld183 Tryz.st183 Tryz.ld184 Tryz.st184 Tryz.ld192 Tryz.st192 Tryz.ld195 Tryz.st195 Tryz.ld217 Tryz.st217 Tryz.ld159 Tryz.st159 Tryz.ld142 Tryz.st142 Tryz.ld2 Tryz.st2 Tryz.ld5 Tryz.st5 Tryz.ld12 Tryz.st12 Tryz.ld21 Tryz.st21 Tryz.ld22 Tryz.st22 Tryz.ld24 Tryz.st24 Tryz.ld58 Tryz.st58 Tryz.ld97 Tryz.st97 Tryz.ld101 Tryz.st101 Tryz.ld116 Tryz.st116 Tryz.ld121 Tryz.st121 Tryz.ld135 Tryz.st135 Tryz.ld136 Tryz.st136 Tryz.ld143 Tryz.st143 Tryz.ld148 Tryz.st148 Tryz.ld154 Tryz.st154 Tryz.ld173 Tryz.st173 Tryz.ld187 Tryz.st187 Tryz.ld222 Tryz.st222 Tryz.ld241 Tryz.st241 Tryz.ld248 Tryz.st248 Tryz.ld268 Tryz.st268 Tryz.ld272 Tryz.st272 Tryz.ld153 Tryz.st153 Tryz.ld255 Tryz.st255 Tryz.ld256 Tryz.st256 Tryz.ld129 Tryz.st129 Tryz.ld152 Tryz.st152 Tryz.ld31 Tryz.st31 Tryz.ld46 Tryz.st46 Tryz.ld52 Tryz.st52 Tryz.ld54 Tryz.st54 Tryz.ld60 Tryz.st60 Tryz.ld70 Tryz.st70 Tryz.ld74 Tryz.st74 Tryz.ld93 Tryz.st93 Tryz.ld141 Tryz.st141 Tryz.ld151 Tryz.st151 Tryz.ld170 Tryz.st170 Tryz.ld186 Tryz.st186 Tryz.ld189 Tryz.st189 Tryz.ld194 Tryz.st194 Tryz.ld197 Tryz.st197 Tryz.ld219 Tryz.st219 Tryz.ld224 Tryz.st224 Tryz.ld230 Tryz.st230 Tryz.ld235 Tryz.st235 Tryz.ld243 Tryz.st243 Tryz.ld247 Tryz.st247 Tryz.ld252 Tryz.st252 Tryz.ld258 Tryz.st258 Tryz.al153 Tryz.al255 Tryz.al256 Tryz.al129 Tryz.al152 Tryz.al31 Tryz.al46 Tryz.al52 Tryz.al54 Tryz.al60 Tryz.al70 Tryz.al74 Tryz.al93 Tryz.al141 Tryz.al151 Tryz.al170 Tryz.al186 Tryz.al189 Tryz.al194 Tryz.al197 Tryz.al219 Tryz.al224 Tryz.al230 Tryz.al235 Tryz.al243 Tryz.al247 Tryz.al252 Tryz.al258
attribute [local go_sem] Request.length_enc Request.ok_enc Request.all_get Request.all_set Request.kind_get Request.kind_set Request.blob_get Request.blob_set Request.items_get Request.items_set Request.pred_get Request.pred_set Request.slots_get Request.slots_set Trace.length_enc Trace.ok_enc Trace.all_get Trace.all_set Trace.op_get Trace.op_set Trace.calls_get Trace.calls_set Item.length_enc Item.ok_enc Item.all_get Item.all_set Item.del_get Item.del_set Item.pred_get Item.pred_set Item.args_get Item.args_set Reply.length_enc Reply.ok_enc Reply.all_get Reply.all_set Reply.code_get Reply.code_set Reply.kind_get Reply.kind_set Reply.index_get Reply.index_set Reply.yes_get Reply.yes_set Reply.preds_get Reply.preds_set Reply.rules_get Reply.rules_set Reply.arity_get Reply.arity_set Reply.rows_get Reply.rows_set Reply.fact_get Reply.fact_set Reply.fact_del_get Reply.fact_del_set Reply.fact_pred_get Reply.fact_pred_set Reply.fact_args_get Reply.fact_args_set GEntry.length_enc GEntry.ok_enc GEntry.all_get GEntry.all_set GEntry.seq_get GEntry.seq_set GEntry.kind_get GEntry.kind_set GEntry.code_get GEntry.code_set GOp.length_enc GOp.ok_enc GOp.all_get GOp.all_set GOp.kind_get GOp.kind_set GOp.raw_get GOp.raw_set Reader.length_enc Reader.ok_enc Reader.all_get Reader.all_set Reader.buf_get Reader.buf_set Reader.at__get Reader.at__set Slot.length_enc Slot.ok_enc Slot.all_get Slot.all_set Slot.bound_get Slot.bound_set Slot.name_get Slot.name_set Session.length_enc Session.ok_enc Session.all_get Session.all_set Session.svc_get Session.svc_set Session.buf_get Session.buf_set Session.closed_get Session.closed_set GProgram.length_enc GProgram.ok_enc GProgram.all_get GProgram.all_set GProgram.pool_get GProgram.pool_set GProgram.preds_get GProgram.preds_set GProgram.rules_get GProgram.rules_set GProgram.strata_get GProgram.strata_set PredInfo.length_enc PredInfo.ok_enc PredInfo.all_get PredInfo.all_set PredInfo.arity_get PredInfo.arity_set PredInfo.base_get PredInfo.base_set PredInfo.stratum_get PredInfo.stratum_set Change.length_enc Change.ok_enc Change.all_get Change.all_set Change.del_get Change.del_set Change.pred_get Change.pred_set Change.t_get Change.t_set Store.length_enc Store.ok_enc Store.all_get Store.all_set Store.names_get Store.names_set Store.arity_get Store.arity_set Store.rows_get Store.rows_set Src.length_enc Src.ok_enc Src.all_get Src.all_set Src.b_get Src.b_set Src.at__get Src.at__set Atom.length_enc Atom.ok_enc Atom.all_get Atom.all_set Atom.pred_get Atom.pred_set Atom.args_get Atom.args_set GRule.length_enc GRule.ok_enc GRule.all_get GRule.all_set GRule.head_get GRule.head_set GRule.body_get GRule.body_set GRule.head_pred_get GRule.head_pred_set GRule.head_args_get GRule.head_args_set Cert.length_enc Cert.ok_enc Cert.all_get Cert.all_set Cert.names_get Cert.names_set Cert.nodes_get Cert.nodes_set Fact.length_enc Fact.ok_enc Fact.all_get Fact.all_set Fact.pred_get Fact.pred_set Fact.t_get Fact.t_set Literal.length_enc Literal.ok_enc Literal.all_get Literal.all_set Literal.neg_get Literal.neg_set Literal.atom_get Literal.atom_set Literal.atom_pred_get Literal.atom_pred_set Literal.atom_args_get Literal.atom_args_set Engine.length_enc Engine.ok_enc Engine.all_get Engine.all_set Engine.prog_get Engine.prog_set Engine.st_get Engine.st_set SrcCertm.length_enc SrcCertm.ok_enc SrcCertm.all_get SrcCertm.all_set SrcCertm.b_get SrcCertm.b_set SrcCertm.at__get SrcCertm.at__set GNode.length_enc GNode.ok_enc GNode.all_get GNode.all_set GNode.rule_get GNode.rule_set GNode.pred_get GNode.pred_set GNode.vals_get GNode.vals_set GNode.refs_get GNode.refs_set Term.length_enc Term.ok_enc Term.all_get Term.all_set Term.var_get Term.var_set Term.n_get Term.n_set Env.length_enc Env.ok_enc Env.all_get Env.all_set Env.val_get Env.val_set Env.set_get Env.set_set
attribute [local go_sem] size_put size_ext blk_put free_put blk_alloc free_alloc blk_drew free_drew blk_ext free_ext lookOr_some putOr_some segAt_some cellAt_some storeIn_some put_put put_alloc_new length_arr ok_arr_u8 ok_arr_u32 ok_arr_u64 ok_arr_i64 ok_arr_sl cellsV_agg cellsV_int cellsV_bool cellsV_string cellsV_pointer cellsV_slice cellsV_sl ok_int ok_bool ok_string ok_pointer ok_slice ok_sl toList_arr seg_arr set_arr nth_splice nth_splice0 seg_splice seg_splice0 splice_splice splice_splice0 length_splice_if
attribute [local go_sem ↓] execOp_box
attribute [local go_sem] box_run nth_arr_u8 put_arr_u8 blk_drewN free_drewN put_drewN blk_raw free_raw
theorem Fst.det {p : PP} {P P' : List (List Tup)} (h : Fst p P) (h' : Fst p P') : P = P' := by
  unfold Fst at h h'
  exact PerfTo.det h.1 h'.1
theorem ColR.det {s : InsS} {c c' : Int} {s1 s2 : InsS} (h : ColR s c s1) (h' : ColR s c' s2) : c = c' ∧ (c = 0 → s1 = s2) := by
  obtain ⟨P, hP, h⟩ := h
  obtain ⟨P', hP', h'⟩ := h'
  have e := hP.det hP'
  subst e
  rcases h with ⟨a1, a2⟩ | ⟨a1, ⟨a2, a3⟩ | ⟨a2, ix, R', a3, a4⟩⟩
  · rcases h' with ⟨b1, b2⟩ | ⟨b1, -⟩
    · exact ⟨a2.trans b2.symm, fun e => by rw [a2] at e; cases e⟩
    · rw [a1] at b1; cases b1
  · rcases h' with ⟨b1, -⟩ | ⟨b1, ⟨b2, b3⟩ | ⟨b2, -⟩⟩
    · rw [a1] at b1; cases b1
    · exact ⟨a2.trans b2.symm, fun e => absurd e a3⟩
    · exact absurd (a2.trans b2) a3
  · rcases h' with ⟨b1, -⟩ | ⟨b1, ⟨b2, b3⟩ | ⟨b2, ix', R'', b3, b4⟩⟩
    · rw [a1] at b1; cases b1
    · exact absurd (b2.trans a2) b3
    · obtain ⟨e1, -, e3⟩ := a3.det b3
      subst e1 e3
      exact ⟨rfl, fun e => (a4 e).trans (b4 e).symm⟩
theorem MrR.det {s : InsS} {L : List It} {c c' : Int} {s1 s2 : InsS} {co co' : Int} (h : MrR s L c s1 co) (h' : MrR s L c' s2 co') : c = c' ∧ s1 = s2 ∧ co = co' := by
  rcases h with ⟨a1, a2, a3, a4⟩ | ⟨a1, a0, a2, a3, a4⟩ | ⟨a1, a0, cc, t1, hC, ha⟩
  · rcases h' with ⟨b1, b2, b3, b4⟩ | ⟨b1, -⟩ | ⟨b1, -⟩
    · exact ⟨a2.trans b2.symm, a3.trans b3.symm, a4.trans b4.symm⟩
    · exact absurd a1 b1
    · exact absurd a1 b1
  · rcases h' with ⟨b1, -⟩ | ⟨b1, b0, b2, b3, b4⟩ | ⟨b1, b0, -⟩
    · exact absurd b1 a1
    · exact ⟨a2.trans b2.symm, a3.trans b3.symm, a4.trans b4.symm⟩
    · exact absurd a0 b0
  · rcases h' with ⟨b1, -⟩ | ⟨b1, b0, -⟩ | ⟨b1, b0, cc', t2, hC', hb⟩
    · exact absurd b1 a1
    · exact absurd b0 a0
    · obtain ⟨e1, e2⟩ := hC.det hC'
      subst e1
      rcases ha with ⟨a2, a3, a4, a5⟩ | ⟨a2, a3, a4, a5⟩
      · rcases hb with ⟨b2, b3, b4, b5⟩ | ⟨b2, -⟩
        · exact ⟨a3.trans b3.symm, a4.trans b4.symm, a5.trans b5.symm⟩
        · exact absurd b2 a2
      · rcases hb with ⟨b2, -⟩ | ⟨b2, b3, b4, b5⟩
        · exact absurd a2 b2
        · exact ⟨a3.trans b3.symm, a4.trans ((e2 a2).trans b4.symm), a5.trans b5.symm⟩
theorem inR.det {s : Sv} {t : InsS} {pr : Nat} {args : List (List UInt8)} {r1 r2 : Reply} {s1 s2 : Sv} (h : inR s t pr args r1 s1) (h' : inR s t pr args r2 s2) : r1 = r2 ∧ s1 = s2 := by
  rcases h with ⟨a1, a2, a3⟩ | ⟨a1, mc, t1, co, hm, ha⟩
  · rcases h' with ⟨b1, b2, b3⟩ | ⟨b1, -⟩
    · exact ⟨a2.trans b2.symm, a3.trans b3.symm⟩
    · exact absurd b1 a1
  · rcases h' with ⟨b1, -⟩ | ⟨b1, mc', t2, co', hm', hb⟩
    · exact absurd a1 b1
    obtain ⟨e1, e2, e3⟩ := hm.det hm'
    subst e1 e2 e3
    rcases ha with ⟨a2, a3, a4⟩ | ⟨a2, ha⟩
    · rcases hb with ⟨b2, b3, b4⟩ | ⟨b2, -⟩
      · exact ⟨a3.trans b3.symm, a4.trans b4.symm⟩
      · exact absurd b2 a2
    · rcases hb with ⟨b2, -⟩ | ⟨b2, hb⟩
      · exact absurd a2 b2
      rcases ha with ⟨a3, a4, a5⟩ | ⟨a3, code, ix, R', hB, ha⟩
      · rcases hb with ⟨b3, b4, b5⟩ | ⟨b3, -⟩
        · exact ⟨a4.trans b4.symm, a5.trans b5.symm⟩
        · exact absurd b3 a3
      · rcases hb with ⟨b3, -⟩ | ⟨b3, code', ix', R'', hB', hb⟩
        · exact absurd a3 b3
        obtain ⟨e1, e2, e3⟩ := hB.det hB'
        subst e1 e2 e3
        rcases ha with ⟨a4, a5, a6⟩ | ⟨a4, a5, a6⟩
        · rcases hb with ⟨b4, b5, b6⟩ | ⟨b4, -⟩
          · exact ⟨a5.trans b5.symm, a6.trans b6.symm⟩
          · exact absurd b4 a4
        · rcases hb with ⟨b4, -⟩ | ⟨b4, b5, b6⟩
          · exact absurd a4 b4
          · exact ⟨a5.trans b5.symm, a6.trans b6.symm⟩
theorem btR.det {s : Sv} {t : InsS} {L : List It} {r1 r2 : Reply} {s1 s2 : Sv} (h : btR s t L r1 s1) (h' : btR s t L r2 s2) : r1 = r2 ∧ s1 = s2 := by
  rcases h with ⟨c, i, a1, a2, a3⟩ | ⟨a1, mc, t1, co, hm, ha⟩
  · rcases h' with ⟨c', i', b1, b2, b3⟩ | ⟨b1, -⟩
    · rw [a1] at b1
      have e := Option.some.inj b1
      have e1 : c = c' := congrArg Prod.fst e
      have e2 : i = i' := congrArg Prod.snd e
      subst e1 e2
      exact ⟨a2.trans b2.symm, a3.trans b3.symm⟩
    · rw [a1] at b1; cases b1
  · rcases h' with ⟨c', i', b1, -⟩ | ⟨b1, mc', t2, co', hm', hb⟩
    · rw [a1] at b1; cases b1
    obtain ⟨e1, e2, e3⟩ := hm.det hm'
    subst e1 e2 e3
    rcases ha with ⟨a2, a3, a4⟩ | ⟨a2, ha⟩
    · rcases hb with ⟨b2, b3, b4⟩ | ⟨b2, -⟩
      · exact ⟨a3.trans b3.symm, a4.trans b4.symm⟩
      · exact absurd b2 a2
    · rcases hb with ⟨b2, -⟩ | ⟨b2, hb⟩
      · exact absurd a2 b2
      rcases ha with ⟨a3, a4, a5⟩ | ⟨a3, code, ix, R', hB, ha⟩
      · rcases hb with ⟨b3, b4, b5⟩ | ⟨b3, -⟩
        · exact ⟨a4.trans b4.symm, a5.trans b5.symm⟩
        · exact absurd b3 a3
      · rcases hb with ⟨b3, -⟩ | ⟨b3, code', ix', R'', hB', hb⟩
        · exact absurd a3 b3
        obtain ⟨e1, e2, e3⟩ := hB.det hB'
        subst e1 e2 e3
        rcases ha with ⟨a4, a5, a6⟩ | ⟨a4, a5, a6⟩
        · rcases hb with ⟨b4, b5, b6⟩ | ⟨b4, -⟩
          · exact ⟨a5.trans b5.symm, a6.trans b6.symm⟩
          · exact absurd b4 a4
        · rcases hb with ⟨b4, -⟩ | ⟨b4, b5, b6⟩
          · exact absurd a4 b4
          · exact ⟨a5.trans b5.symm, a6.trans b6.symm⟩
theorem VerR.det {p : PP} {c c' : Int} {p1 p2 : PP} (h : VerR p c p1) (h' : VerR p c' p2) : c = c' ∧ (c = 0 → p1 = p2) := by
  rcases h with ⟨a1, a2⟩ | ⟨a1, res, hS, ha⟩
  · rcases h' with ⟨b1, b2⟩ | ⟨b1, -⟩
    · exact ⟨a2.trans b2.symm, fun e => absurd (a2.symm.trans e) a1⟩
    · exact absurd b1 a1
  · rcases h' with ⟨b1, -⟩ | ⟨b1, res', hS', hb⟩
    · exact absurd a1 b1
    have e := hS.det hS'
    subst e
    rcases ha with ⟨a2, a3⟩ | ⟨ps, a2, -, -, a3, a4⟩
    · rcases hb with ⟨b2, b3⟩ | ⟨ps', b2, -⟩
      · exact ⟨a3.trans b3.symm, fun e => by rw [a3] at e; cases e⟩
      · rw [a2] at b2; cases b2
    · rcases hb with ⟨b2, b3⟩ | ⟨ps', b2, -, -, b3, b4⟩
      · rw [a2] at b2; cases b2
      · rw [a2] at b2
        have e := Option.some.inj b2
        subst e
        exact ⟨a3.trans b3.symm, fun _ => a4.trans b4.symm⟩
theorem ldR.det {s : Sv} {xs : List UInt8} {r1 r2 : Reply} {s1 s2 : Sv} (h : ldR s xs r1 s1) (h' : ldR s xs r2 s2) : r1 = r2 ∧ s1 = s2 := by
  rcases h with ⟨a1, a2, a3⟩ | ⟨a1, vc, p1, hV, ha⟩
  · rcases h' with ⟨b1, b2, b3⟩ | ⟨b1, -⟩
    · exact ⟨a2.trans b2.symm, a3.trans b3.symm⟩
    · exact absurd b1 a1
  · rcases h' with ⟨b1, -⟩ | ⟨b1, vc', p2, hV', hb⟩
    · exact absurd a1 b1
    obtain ⟨e1, e2⟩ := hV.det hV'
    subst e1
    rcases ha with ⟨a2, a3, a4⟩ | ⟨a2, P, hF, ha⟩
    · rcases hb with ⟨b2, b3, b4⟩ | ⟨b2, -⟩
      · exact ⟨a3.trans b3.symm, a4.trans b4.symm⟩
      · exact absurd b2 a2
    · rcases hb with ⟨b2, -⟩ | ⟨b2, P', hF', hb⟩
      · exact absurd a2 b2
      have e3 := e2 a2
      subst e3
      have e4 := hF.det hF'
      subst e4
      rcases ha with ⟨a3, a4, a5⟩ | ⟨a3, a4, a5⟩
      · rcases hb with ⟨b3, b4, b5⟩ | ⟨b3, -⟩
        · exact ⟨a4.trans b4.symm, a5.trans b5.symm⟩
        · rw [a3] at b3; cases b3
      · rcases hb with ⟨b3, -⟩ | ⟨b3, b4, b5⟩
        · rw [a3] at b3; cases b3
        · exact ⟨a4.trans b4.symm, a5.trans b5.symm⟩
theorem PZ.det {P : Reply → Sv → Prop} (hP : ∀ r1 r2 s1 s2, P r1 s1 → P r2 s2 → r1 = r2 ∧ s1 = s2) {q1 q2 : PRep} {s1 s2 : Sv} (h : PZ P q1 s1) (h' : PZ P q2 s2) : q1 = q2 ∧ s1 = s2 := by
  obtain ⟨r1, a1, rfl⟩ := h
  obtain ⟨r2, b1, rfl⟩ := h'
  obtain ⟨rfl, rfl⟩ := hP _ _ _ _ a1 b1
  exact ⟨rfl, rfl⟩
theorem dsR.det {s : Sv} {q : Rq} {r1 r2 : PRep} {s1 s2 : Sv} (h : dsR s q r1 s1) (h' : dsR s q r2 s2) : r1 = r2 ∧ s1 = s2 := by
  rcases h with ⟨a1, ha⟩ | ⟨a1, a2, a3, a4⟩ | ⟨t, ht, ha⟩
  · rcases h' with ⟨b1, hb⟩ | ⟨b1, -⟩ | ⟨t', ht', hb⟩
    · exact PZ.det (fun _ _ _ _ x y => ldR.det x y) ha hb
    · exact absurd a1 b1
    · rcases hb with ⟨b1, -⟩ | ⟨b1, -⟩ | ⟨b1, -⟩ | ⟨b1, -⟩ | ⟨b1, -⟩ | ⟨b1, -⟩ <;> (rw [a1] at b1; cases b1)
  · rcases h' with ⟨b1, hb⟩ | ⟨b1, b2, b3, b4⟩ | ⟨t', ht', hb⟩
    · exact absurd b1 a1
    · exact ⟨a3.trans b3.symm, a4.trans b4.symm⟩
    · rw [a2] at ht'; cases ht'
  · rcases h' with ⟨b1, hb⟩ | ⟨b1, b2, b3, b4⟩ | ⟨t', ht', hb⟩
    · rcases ha with ⟨a1, -⟩ | ⟨a1, -⟩ | ⟨a1, -⟩ | ⟨a1, -⟩ | ⟨a1, -⟩ | ⟨a1, -⟩ <;> (rw [b1] at a1; cases a1)
    · rw [b2] at ht; cases ht
    · have e : t = t' := Option.some.inj (ht.symm.trans ht')
      subst e
      rcases ha with ⟨a1, ha⟩ | ⟨a1, ha⟩ | ⟨a1, ha⟩ | ⟨a1, ha⟩ | ⟨a1, ha⟩ | ⟨a1, ha⟩ <;> rcases hb with ⟨b1, hb⟩ | ⟨b1, hb⟩ | ⟨b1, hb⟩ | ⟨b1, hb⟩ | ⟨b1, hb⟩ | ⟨b1, hb⟩
      all_goals first
        | (exfalso; rw [a1] at b1; cases b1; done)
        | exact PZ.det (fun _ _ _ _ x y => inR.det x y) ha hb
        | exact PZ.det (fun _ _ _ _ x y => rmR.det x y) ha hb
        | exact PZ.det (fun _ _ _ _ x y => btR.det x y) ha hb
        | exact PZ.det (fun _ _ _ _ x y => by have e := x.trans y.symm; exact ⟨congrArg Prod.fst e, congrArg Prod.snd e⟩) ha hb
        | exact ⟨ha.1.trans hb.1.symm, ha.2.trans hb.2.symm⟩
/-- The service answers a request in one way. -/
theorem svR.det {s : Sv} {raw : List UInt8} {q1 q2 : PRep} {s1 s2 : Sv} (h : svR s raw q1 s1) (h' : svR s raw q2 s2) : q1 = q2 ∧ s1 = s2 := by
  obtain ⟨t1, h, rfl⟩ := h
  obtain ⟨t2, h', rfl⟩ := h'
  rcases h with ⟨a1, a2, a3⟩ | ⟨a1, ha⟩
  · rcases h' with ⟨b1, b2, b3⟩ | ⟨b1, -⟩
    · rw [a2, b2, a3, b3]; exact ⟨rfl, rfl⟩
    · exact absurd b1 a1
  · rcases h' with ⟨b1, -⟩ | ⟨b1, hb⟩
    · exact absurd a1 b1
    · obtain ⟨e1, e2⟩ := dsR.det ha hb
      rw [e1, e2]; exact ⟨rfl, rfl⟩
end Go.Proofs.Qxb6500787aGreat
