import Derived.Test.Qxb6500787aGreatMk

import Derived.StillTailTactics
import Derived.Deep.QuietTactic
import Derived.BigQuiet
import Derived.Deep.RegionHeld
import Derived.Deep.CutRange
import Derived.Laws.ResultCell
import Derived.Laws.Rows
import Derived.DeepKeys
import Derived.DataBytes
import Derived.Laws.StructEq
import Derived.Laws.AppendOwn
import Derived.Laws.MakeOwn
import Derived.Lib.AppendStr
set_option linter.unusedSimpArgs false
set_option linter.unusedVariables false
namespace Go.Proofs.Qxb6500787aGreat
open Go.RowKit Go.Blk
attribute [local go_sem ↓] execOp_load execOp_store execOp_alloc
attribute [local go_sem] Tryz.ld26 Tryz.st26 Tryz.ld27 Tryz.st27 Tryz.ld28 Tryz.st28 Tryz.ld3 Tryz.st3 Tryz.ld29 Tryz.st29 Tryz.ld44 Tryz.st44 Tryz.ld4 Tryz.st4 Tryz.ld50 Tryz.st50 Tryz.ld32 Tryz.st32 Tryz.ld49 Tryz.st49 Tryz.ld68 Tryz.st68 Tryz.ld9 Tryz.st9 Tryz.ld40 Tryz.st40 Tryz.ld138 Tryz.st138 Tryz.ld139 Tryz.st139 Tryz.ld146 Tryz.st146 Tryz.ld183 Tryz.st183 Tryz.ld184 Tryz.st184 Tryz.ld192 Tryz.st192 Tryz.ld195 Tryz.st195 Tryz.ld217 Tryz.st217 Tryz.ld159 Tryz.st159 Tryz.ld142 Tryz.st142 Tryz.ld2 Tryz.st2 Tryz.ld5 Tryz.st5 Tryz.ld12 Tryz.st12 Tryz.ld21 Tryz.st21 Tryz.ld22 Tryz.st22 Tryz.ld24 Tryz.st24 Tryz.ld58 Tryz.st58 Tryz.ld97 Tryz.st97 Tryz.ld101 Tryz.st101 Tryz.ld116 Tryz.st116 Tryz.ld121 Tryz.st121 Tryz.ld135 Tryz.st135 Tryz.ld136 Tryz.st136 Tryz.ld143 Tryz.st143 Tryz.ld148 Tryz.st148 Tryz.ld154 Tryz.st154 Tryz.ld173 Tryz.st173 Tryz.ld187 Tryz.st187 Tryz.ld222 Tryz.st222 Tryz.ld241 Tryz.st241 Tryz.ld248 Tryz.st248 Tryz.ld268 Tryz.st268 Tryz.ld272 Tryz.st272 Tryz.ld153 Tryz.st153 Tryz.ld255 Tryz.st255 Tryz.ld256 Tryz.st256 Tryz.ld129 Tryz.st129 Tryz.ld152 Tryz.st152 Tryz.ld31 Tryz.st31 Tryz.ld46 Tryz.st46 Tryz.ld52 Tryz.st52 Tryz.ld54 Tryz.st54 Tryz.ld60 Tryz.st60 Tryz.ld70 Tryz.st70 Tryz.ld74 Tryz.st74 Tryz.ld93 Tryz.st93 Tryz.ld141 Tryz.st141 Tryz.ld151 Tryz.st151 Tryz.ld170 Tryz.st170 Tryz.ld186 Tryz.st186 Tryz.ld189 Tryz.st189 Tryz.ld194 Tryz.st194 Tryz.ld197 Tryz.st197 Tryz.ld219 Tryz.st219 Tryz.ld224 Tryz.st224 Tryz.ld230 Tryz.st230 Tryz.ld235 Tryz.st235 Tryz.ld243 Tryz.st243 Tryz.ld247 Tryz.st247 Tryz.ld252 Tryz.st252 Tryz.ld258 Tryz.st258 Tryz.al153 Tryz.al255 Tryz.al256 Tryz.al129 Tryz.al152 Tryz.al31 Tryz.al46 Tryz.al52 Tryz.al54 Tryz.al60 Tryz.al70 Tryz.al74 Tryz.al93 Tryz.al141 Tryz.al151 Tryz.al170 Tryz.al186 Tryz.al189 Tryz.al194 Tryz.al197 Tryz.al219 Tryz.al224 Tryz.al230 Tryz.al235 Tryz.al243 Tryz.al247 Tryz.al252 Tryz.al258
attribute [local go_sem] Request.length_enc Request.ok_enc Request.all_get Request.all_set Request.kind_get Request.kind_set Request.blob_get Request.blob_set Request.items_get Request.items_set Request.pred_get Request.pred_set Request.slots_get Request.slots_set Trace.length_enc Trace.ok_enc Trace.all_get Trace.all_set Trace.op_get Trace.op_set Trace.calls_get Trace.calls_set Item.length_enc Item.ok_enc Item.all_get Item.all_set Item.del_get Item.del_set Item.pred_get Item.pred_set Item.args_get Item.args_set Reply.length_enc Reply.ok_enc Reply.all_get Reply.all_set Reply.code_get Reply.code_set Reply.kind_get Reply.kind_set Reply.index_get Reply.index_set Reply.yes_get Reply.yes_set Reply.preds_get Reply.preds_set Reply.rules_get Reply.rules_set Reply.arity_get Reply.arity_set Reply.rows_get Reply.rows_set Reply.fact_get Reply.fact_set Reply.fact_del_get Reply.fact_del_set Reply.fact_pred_get Reply.fact_pred_set Reply.fact_args_get Reply.fact_args_set GEntry.length_enc GEntry.ok_enc GEntry.all_get GEntry.all_set GEntry.seq_get GEntry.seq_set GEntry.kind_get GEntry.kind_set GEntry.code_get GEntry.code_set GOp.length_enc GOp.ok_enc GOp.all_get GOp.all_set GOp.kind_get GOp.kind_set GOp.raw_get GOp.raw_set Reader.length_enc Reader.ok_enc Reader.all_get Reader.all_set Reader.buf_get Reader.buf_set Reader.at__get Reader.at__set Slot.length_enc Slot.ok_enc Slot.all_get Slot.all_set Slot.bound_get Slot.bound_set Slot.name_get Slot.name_set Session.length_enc Session.ok_enc Session.all_get Session.all_set Session.svc_get Session.svc_set Session.buf_get Session.buf_set Session.closed_get Session.closed_set GProgram.length_enc GProgram.ok_enc GProgram.all_get GProgram.all_set GProgram.pool_get GProgram.pool_set GProgram.preds_get GProgram.preds_set GProgram.rules_get GProgram.rules_set GProgram.strata_get GProgram.strata_set PredInfo.length_enc PredInfo.ok_enc PredInfo.all_get PredInfo.all_set PredInfo.arity_get PredInfo.arity_set PredInfo.base_get PredInfo.base_set PredInfo.stratum_get PredInfo.stratum_set Change.length_enc Change.ok_enc Change.all_get Change.all_set Change.del_get Change.del_set Change.pred_get Change.pred_set Change.t_get Change.t_set Store.length_enc Store.ok_enc Store.all_get Store.all_set Store.names_get Store.names_set Store.arity_get Store.arity_set Store.rows_get Store.rows_set Src.length_enc Src.ok_enc Src.all_get Src.all_set Src.b_get Src.b_set Src.at__get Src.at__set Atom.length_enc Atom.ok_enc Atom.all_get Atom.all_set Atom.pred_get Atom.pred_set Atom.args_get Atom.args_set GRule.length_enc GRule.ok_enc GRule.all_get GRule.all_set GRule.head_get GRule.head_set GRule.body_get GRule.body_set GRule.head_pred_get GRule.head_pred_set GRule.head_args_get GRule.head_args_set Cert.length_enc Cert.ok_enc Cert.all_get Cert.all_set Cert.names_get Cert.names_set Cert.nodes_get Cert.nodes_set Fact.length_enc Fact.ok_enc Fact.all_get Fact.all_set Fact.pred_get Fact.pred_set Fact.t_get Fact.t_set Literal.length_enc Literal.ok_enc Literal.all_get Literal.all_set Literal.neg_get Literal.neg_set Literal.atom_get Literal.atom_set Literal.atom_pred_get Literal.atom_pred_set Literal.atom_args_get Literal.atom_args_set Engine.length_enc Engine.ok_enc Engine.all_get Engine.all_set Engine.prog_get Engine.prog_set Engine.st_get Engine.st_set SrcCertm.length_enc SrcCertm.ok_enc SrcCertm.all_get SrcCertm.all_set SrcCertm.b_get SrcCertm.b_set SrcCertm.at__get SrcCertm.at__set GNode.length_enc GNode.ok_enc GNode.all_get GNode.all_set GNode.rule_get GNode.rule_set GNode.pred_get GNode.pred_set GNode.vals_get GNode.vals_set GNode.refs_get GNode.refs_set Term.length_enc Term.ok_enc Term.all_get Term.all_set Term.var_get Term.var_set Term.n_get Term.n_set Env.length_enc Env.ok_enc Env.all_get Env.all_set Env.val_get Env.val_set Env.set_get Env.set_set
attribute [local go_sem] size_put size_ext blk_put free_put blk_alloc free_alloc blk_drew free_drew blk_ext free_ext lookOr_some putOr_some segAt_some cellAt_some storeIn_some put_put put_alloc_new length_arr ok_arr_u8 ok_arr_u32 ok_arr_u64 ok_arr_i64 ok_arr_sl cellsV_agg cellsV_int cellsV_bool cellsV_string cellsV_pointer cellsV_slice cellsV_sl ok_int ok_bool ok_string ok_pointer ok_slice ok_sl toList_arr seg_arr set_arr nth_splice nth_splice0 seg_splice seg_splice0 splice_splice splice_splice0 length_splice_if
attribute [local go_sem ↓] execOp_box
attribute [local go_sem] box_run nth_arr_u8 put_arr_u8 blk_drewN free_drewN put_drewN blk_raw free_raw
theorem PfF.drewN {W : World} {bo : Nat} {O : Own} {V : World} {F : List (List NRow)} {ta : Option Addr} {tn tc : Nat} {KT : List MStep} {T : List NStep} {fa : Option Addr} {fn fc : Nat} {K : List MStep} {S : List NStep} (h : PfF W bo O V F ta tn tc KT T fa fn fc K S) (n : Nat) : PfF W bo O (V.drewN n) F ta tn tc KT T fa fn fc K S := by
  have hF : Fr (fun _ => False) O V O (V.drewN n) := (Fr.refl _ _ _).drewN n
  exact ⟨h.st.fr hF, h.row.fr hF (fun e => e), h.len, fun i k s h1 h2 => (h.con i k s h1 h2).sub (Sub.cores fun b C hb ho => ⟨hF.blk hb (fun e => e), ho⟩)⟩
/-- One of the facts found is added to its list. -/
theorem PfF.add {W : World} {bo : Nat} {O : Own} {V : World} {F : List (List NRow)} {ta : Option Addr} {tn tc : Nat} {KT : List MStep} {T : List NStep} {fa : Option Addr} {fn fc : Nat} {K : List MStep} {S : List NStep} (h : PfF W bo O V F ta tn tc KT T fa fn fc K S) {i : Nat} {k : MStep} {s : NStep} (hk : K[i]? = some k) (hs : S[i]? = some s) (hp : s.pred < F.length) (hl : (F.getD s.pred []).length ≤ 999999999999) : ∃ C a c a' c' V' O', blk V bo = some C ∧ s.pred < C.length ∧ C.length = F.length ∧ nth C s.pred = some (.slice a (F.getD s.pred []).length c) ∧ (Builtin.append_ #[75, 75] 75 #[.slice a (F.getD s.pred []).length c, .slice (some ⟨V.heap.size, 0, none⟩) 1 1]).run Tryz.prog (V.alloc (.cells #[.slice k.row.a k.row.len k.row.cap] 78)) = .ok (.slice a' ((F.getD s.pred []).length + 1) c') V' ∧ blk V' bo = some C ∧ Blk.free V' bo = true ∧ (∀ b Cb, blk V b = some Cb → O b = .a 7 1 → blk V' b = some Cb) ∧ PfF W bo O' (put V' bo (splice C s.pred [.slice a' ((F.getD s.pred []).length + 1) c'])) (addRN F s.pred s.row) ta tn tc KT T fa fn fc K S := by
  have hL : F[s.pred]? = some (F.getD s.pred []) := by rw [List.getD_eq_getElem?_getD, List.getElem?_eq_getElem hp]; rfl
  have hst := h.con i k s hk hs
  obtain ⟨C, a, c, a', c', V', O', k1, k2, k3, k4, hrun, k5, k6, k7, k8⟩ := h.st.rel.app hL k.row s.row hst.2.2.1 (by omega)
  have hbo : O bo = .a 8 0 := h.st.rel.lab
  have hne7 : ∀ j q : Nat, ¬ (Lab.a 7 j = Lab.a 8 q) := fun j q e => by have := (Lab.a.inj e).1; omega
  have hrow : ∀ {j : Nat} {v : Value} {n : Nat} {xs : List Value}, RowL W.heap.size O (.a 7 j) V 161 4 v n xs → RowL W.heap.size O' (.a 7 j) (put V' bo (splice C s.pred [.slice a' ((F.getD s.pred []).length + 1) c'])) 161 4 v n xs := fun {j} {v} {n} {xs} hr => (hr.fr k7 (hne7 _ _)).keep (fun b hb hl => ⟨by
    rw [heap_put, if_neg (fun e : b = bo => by
      have h9 := k8.lab
      rw [← e, hl] at h9
      exact hne7 _ _ h9)], rfl⟩)
  have hsub : Sub (core O V) (core O' (put V' bo (splice C s.pred [.slice a' ((F.getD s.pred []).length + 1) c']))) := Sub.cores fun b Cb hb ho => by
    refine ⟨?_, (k7.keep b (blk_lt hb)).trans ho⟩
    rw [blk_put, if_neg (fun e => by rw [e, hbo] at ho; cases ho)]
    exact k7.blk hb (by rw [ho]; exact fun e => by cases e)
  refine ⟨C, a, c, a', c', V', O', k1, k2, k3, k4, hrun, k5, k6, fun b Cb hb ho => k7.blk hb (by rw [ho]; exact hne7 _ _), ⟨k8, hrow h.st.row, h.st.len, fun i k s h1 h2 => (h.st.con i k s h1 h2).sub hsub⟩, hrow h.row, h.len, fun i k s h1 h2 => (h.con i k s h1 h2).sub hsub⟩
/-- What was found is added to the steps. -/
theorem PfF.close {W : World} {bo : Nat} {O : Own} {V : World} {F : List (List NRow)} {ta : Option Addr} {tn tc : Nat} {KT : List MStep} {T : List NStep} {fa : Option Addr} {fn fc : Nat} {K : List MStep} {S : List NStep} (h : PfF W bo O V F ta tn tc KT T fa fn fc K S) (hl : T.length + S.length ≤ 1000000000000) : ∃ a' c' V' O', (Builtin.append_ #[53, 53] 53 #[.slice ta tn tc, .slice fa fn fc]).run Tryz.prog V = .ok (.slice a' (tn + fn) c') V' ∧ PfS W bo O' V' F a' (tn + fn) c' (KT ++ K) (T ++ S) := by
  have hKn := (h.row.rw MStep.len).1
  have hKl : K.length = fn := hKn.1
  have h1 := h.st.len
  have h2 := h.len
  obtain ⟨a', c', V', hrun, hR, hF⟩ := appML el53 53 K h.st.row h.st.rel.ext.size (by omega) (by omega) fa fc (by rw [hKl]; exact hKn)
  rw [hKl] at hrun hR
  have hsub : Sub (core O V) (core (lab O V.heap.size (.a 7 0)) V') := Sub.cores fun b Cb hb ho => ⟨hF.blk hb (by rw [ho]; exact fun e => by cases e), (hF.keep b (blk_lt hb)).trans ho⟩
  refine ⟨a', c', V', _, hrun, h.st.rel.fr hF (fun j e => by have := (Lab.a.inj e).1; omega) (fun e => by cases e), hR, by rw [List.length_append, List.length_append]; omega, fun i k s e1 e2 => ?_⟩
  by_cases hi : i < KT.length
  · rw [List.getElem?_append_left hi] at e1
    rw [List.getElem?_append_left (by omega)] at e2
    exact (h.st.con i k s e1 e2).sub hsub
  · rw [List.getElem?_append_right (by omega)] at e1
    rw [List.getElem?_append_right (by omega), h1] at e2
    exact (h.con _ k s e1 e2).sub hsub
end Go.Proofs.Qxb6500787aGreat
