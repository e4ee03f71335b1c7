import Derived.Test.Qxb6500787aGreatEi
import Derived.Test.Qxb6500787aGreatXf

import Derived.StillTailTactics
import Derived.Deep.QuietTactic
import Derived.BigQuiet
import Derived.Deep.RegionHeld
import Derived.Deep.CutRange
import Derived.Laws.ResultCell
import Derived.Laws.Rows
import Derived.DeepKeys
import Derived.DataBytes
import Derived.Laws.StructEq
import Derived.Laws.AppendOwn
import Derived.Laws.MakeOwn
import Derived.Lib.AppendStr
set_option linter.unusedSimpArgs false
set_option linter.unusedVariables false
namespace Go.Proofs.Qxb6500787aGreat
open Go.RowKit Go.Blk
attribute [local go_sem ↓] execOp_load execOp_store execOp_alloc
attribute [local go_sem] Tryz.ld26 Tryz.st26 Tryz.ld27 Tryz.st27 Tryz.ld28 Tryz.st28 Tryz.ld3 Tryz.st3 Tryz.ld29 Tryz.st29 Tryz.ld44 Tryz.st44 Tryz.ld4 Tryz.st4 Tryz.ld50 Tryz.st50 Tryz.ld32 Tryz.st32 Tryz.ld49 Tryz.st49 Tryz.ld68 Tryz.st68 Tryz.ld9 Tryz.st9 Tryz.ld40 Tryz.st40 Tryz.ld138 Tryz.st138 Tryz.ld139 Tryz.st139 Tryz.ld146 Tryz.st146 Tryz.ld183 Tryz.st183 Tryz.ld184 Tryz.st184 Tryz.ld192 Tryz.st192 Tryz.ld195 Tryz.st195 Tryz.ld217 Tryz.st217 Tryz.ld159 Tryz.st159 Tryz.ld142 Tryz.st142 Tryz.ld2 Tryz.st2 Tryz.ld5 Tryz.st5 Tryz.ld12 Tryz.st12 Tryz.ld21 Tryz.st21 Tryz.ld22 Tryz.st22 Tryz.ld24 Tryz.st24 Tryz.ld58 Tryz.st58 Tryz.ld97 Tryz.st97 Tryz.ld101 Tryz.st101 Tryz.ld116 Tryz.st116 Tryz.ld121 Tryz.st121 Tryz.ld135 Tryz.st135 Tryz.ld136 Tryz.st136 Tryz.ld143 Tryz.st143 Tryz.ld148 Tryz.st148 Tryz.ld154 Tryz.st154 Tryz.ld173 Tryz.st173 Tryz.ld187 Tryz.st187 Tryz.ld222 Tryz.st222 Tryz.ld241 Tryz.st241 Tryz.ld248 Tryz.st248 Tryz.ld268 Tryz.st268 Tryz.ld272 Tryz.st272 Tryz.ld153 Tryz.st153 Tryz.ld255 Tryz.st255 Tryz.ld256 Tryz.st256 Tryz.ld129 Tryz.st129 Tryz.ld152 Tryz.st152 Tryz.ld31 Tryz.st31 Tryz.ld46 Tryz.st46 Tryz.ld52 Tryz.st52 Tryz.ld54 Tryz.st54 Tryz.ld60 Tryz.st60 Tryz.ld70 Tryz.st70 Tryz.ld74 Tryz.st74 Tryz.ld93 Tryz.st93 Tryz.ld141 Tryz.st141 Tryz.ld151 Tryz.st151 Tryz.ld170 Tryz.st170 Tryz.ld186 Tryz.st186 Tryz.ld189 Tryz.st189 Tryz.ld194 Tryz.st194 Tryz.ld197 Tryz.st197 Tryz.ld219 Tryz.st219 Tryz.ld224 Tryz.st224 Tryz.ld230 Tryz.st230 Tryz.ld235 Tryz.st235 Tryz.ld243 Tryz.st243 Tryz.ld247 Tryz.st247 Tryz.ld252 Tryz.st252 Tryz.ld258 Tryz.st258 Tryz.al153 Tryz.al255 Tryz.al256 Tryz.al129 Tryz.al152 Tryz.al31 Tryz.al46 Tryz.al52 Tryz.al54 Tryz.al60 Tryz.al70 Tryz.al74 Tryz.al93 Tryz.al141 Tryz.al151 Tryz.al170 Tryz.al186 Tryz.al189 Tryz.al194 Tryz.al197 Tryz.al219 Tryz.al224 Tryz.al230 Tryz.al235 Tryz.al243 Tryz.al247 Tryz.al252 Tryz.al258
attribute [local go_sem] Request.length_enc Request.ok_enc Request.all_get Request.all_set Request.kind_get Request.kind_set Request.blob_get Request.blob_set Request.items_get Request.items_set Request.pred_get Request.pred_set Request.slots_get Request.slots_set Trace.length_enc Trace.ok_enc Trace.all_get Trace.all_set Trace.op_get Trace.op_set Trace.calls_get Trace.calls_set Item.length_enc Item.ok_enc Item.all_get Item.all_set Item.del_get Item.del_set Item.pred_get Item.pred_set Item.args_get Item.args_set Reply.length_enc Reply.ok_enc Reply.all_get Reply.all_set Reply.code_get Reply.code_set Reply.kind_get Reply.kind_set Reply.index_get Reply.index_set Reply.yes_get Reply.yes_set Reply.preds_get Reply.preds_set Reply.rules_get Reply.rules_set Reply.arity_get Reply.arity_set Reply.rows_get Reply.rows_set Reply.fact_get Reply.fact_set Reply.fact_del_get Reply.fact_del_set Reply.fact_pred_get Reply.fact_pred_set Reply.fact_args_get Reply.fact_args_set GEntry.length_enc GEntry.ok_enc GEntry.all_get GEntry.all_set GEntry.seq_get GEntry.seq_set GEntry.kind_get GEntry.kind_set GEntry.code_get GEntry.code_set GOp.length_enc GOp.ok_enc GOp.all_get GOp.all_set GOp.kind_get GOp.kind_set GOp.raw_get GOp.raw_set Reader.length_enc Reader.ok_enc Reader.all_get Reader.all_set Reader.buf_get Reader.buf_set Reader.at__get Reader.at__set Slot.length_enc Slot.ok_enc Slot.all_get Slot.all_set Slot.bound_get Slot.bound_set Slot.name_get Slot.name_set Session.length_enc Session.ok_enc Session.all_get Session.all_set Session.svc_get Session.svc_set Session.buf_get Session.buf_set Session.closed_get Session.closed_set GProgram.length_enc GProgram.ok_enc GProgram.all_get GProgram.all_set GProgram.pool_get GProgram.pool_set GProgram.preds_get GProgram.preds_set GProgram.rules_get GProgram.rules_set GProgram.strata_get GProgram.strata_set PredInfo.length_enc PredInfo.ok_enc PredInfo.all_get PredInfo.all_set PredInfo.arity_get PredInfo.arity_set PredInfo.base_get PredInfo.base_set PredInfo.stratum_get PredInfo.stratum_set Change.length_enc Change.ok_enc Change.all_get Change.all_set Change.del_get Change.del_set Change.pred_get Change.pred_set Change.t_get Change.t_set Store.length_enc Store.ok_enc Store.all_get Store.all_set Store.names_get Store.names_set Store.arity_get Store.arity_set Store.rows_get Store.rows_set Src.length_enc Src.ok_enc Src.all_get Src.all_set Src.b_get Src.b_set Src.at__get Src.at__set Atom.length_enc Atom.ok_enc Atom.all_get Atom.all_set Atom.pred_get Atom.pred_set Atom.args_get Atom.args_set GRule.length_enc GRule.ok_enc GRule.all_get GRule.all_set GRule.head_get GRule.head_set GRule.body_get GRule.body_set GRule.head_pred_get GRule.head_pred_set GRule.head_args_get GRule.head_args_set Cert.length_enc Cert.ok_enc Cert.all_get Cert.all_set Cert.names_get Cert.names_set Cert.nodes_get Cert.nodes_set Fact.length_enc Fact.ok_enc Fact.all_get Fact.all_set Fact.pred_get Fact.pred_set Fact.t_get Fact.t_set Literal.length_enc Literal.ok_enc Literal.all_get Literal.all_set Literal.neg_get Literal.neg_set Literal.atom_get Literal.atom_set Literal.atom_pred_get Literal.atom_pred_set Literal.atom_args_get Literal.atom_args_set Engine.length_enc Engine.ok_enc Engine.all_get Engine.all_set Engine.prog_get Engine.prog_set Engine.st_get Engine.st_set SrcCertm.length_enc SrcCertm.ok_enc SrcCertm.all_get SrcCertm.all_set SrcCertm.b_get SrcCertm.b_set SrcCertm.at__get SrcCertm.at__set GNode.length_enc GNode.ok_enc GNode.all_get GNode.all_set GNode.rule_get GNode.rule_set GNode.pred_get GNode.pred_set GNode.vals_get GNode.vals_set GNode.refs_get GNode.refs_set Term.length_enc Term.ok_enc Term.all_get Term.all_set Term.var_get Term.var_set Term.n_get Term.n_set Env.length_enc Env.ok_enc Env.all_get Env.all_set Env.val_get Env.val_set Env.set_get Env.set_set
attribute [local go_sem] size_put size_ext blk_put free_put blk_alloc free_alloc blk_drew free_drew blk_ext free_ext lookOr_some putOr_some segAt_some cellAt_some storeIn_some put_put put_alloc_new length_arr ok_arr_u8 ok_arr_u32 ok_arr_u64 ok_arr_i64 ok_arr_sl cellsV_agg cellsV_int cellsV_bool cellsV_string cellsV_pointer cellsV_slice cellsV_sl ok_int ok_bool ok_string ok_pointer ok_slice ok_sl toList_arr seg_arr set_arr nth_splice nth_splice0 seg_splice seg_splice0 splice_splice splice_splice0 length_splice_if
attribute [local go_sem ↓] execOp_box
attribute [local go_sem] box_run nth_arr_u8 put_arr_u8 blk_drewN free_drewN put_drewN blk_raw free_raw

def Cx (c : Int) : Prop := 0 ≤ c ∧ c < 43 ∧ c ≠ 16
instance (c : Int) : Decidable (Cx c) := inferInstanceAs (Decidable (_ ∧ _ ∧ _))
theorem cx_if {α : Type} {p : Prop} [Decidable p] {a b : Int × α} (ha : p → Cx a.1) (hb : ¬ p → Cx b.1) : Cx (if p then a else b).1 := by
  by_cases h : p
  · rw [if_pos h]; exact ha h
  · rw [if_neg h]; exact hb h
theorem cx_int {p : Prop} [Decidable p] {a b : Int} (ha : p → Cx a) (hb : ¬ p → Cx b) : Cx (if p then a else b) := by
  by_cases h : p
  · rw [if_pos h]; exact ha h
  · rw [if_neg h]; exact hb h
theorem nameF_cx (ys : List UInt8) : Cx (nameF ys).1 := by
  cases ys with
  | nil => exact (by decide : Cx 5)
  | cons x ys => rw [nameF_cons]; exact cx_if (fun _ => (by decide : Cx 9)) (fun _ => cx_if (fun _ => (by decide : Cx 5)) (fun _ => (by decide : Cx 0)))
theorem bitD_cx (ys : List UInt8) : Cx (bitD ys).1 := by
  cases ys with
  | nil => exact (by decide : Cx 19)
  | cons x r => rw [bitD_cons]; exact cx_if (fun _ => (by decide : Cx 23)) (fun _ => (by decide : Cx 0))
theorem goT_cx : ∀ (m : Nat) (acc : List Term) (ys : List UInt8), Cx (goT m acc ys).1
  | 0, _, _ => (by decide : Cx 0)
  | m + 1, acc, ys => by
    by_cases e : (bitD ys).1 = 0
    · cases e2 : (bitD ys).2.2 with
      | nil => rw [goT_end e e2]; exact (by decide : Cx 19)
      | cons x r => rw [goT_ok e e2]; exact goT_cx m _ _
    · rw [goT_bad e]; exact bitD_cx ys
theorem atomD_cx (ys : List UInt8) : Cx (atomD ys).1 := by
  match ys with
  | [] => exact (by decide : Cx 19)
  | [_] => exact (by decide : Cx 19)
  | p :: k :: r => rw [atomD_cons]; exact goT_cx _ _ _
theorem goLt_cx : ∀ (m : Nat) (acc : List PL) (ys : List UInt8), Cx (goLt m acc ys).1
  | 0, _, _ => (by decide : Cx 0)
  | m + 1, acc, ys => by
    by_cases e : (bitD ys).1 = 0
    · by_cases e2 : (atomD (bitD ys).2.2).1 = 0
      · rw [goLt_ok e e2]; exact goLt_cx m _ _
      · rw [goLt_bad2 e e2]; exact atomD_cx _
    · rw [goLt_bad e]; exact bitD_cx ys
theorem ruleD_cx (ys : List UInt8) : Cx (ruleD ys).1 := by
  by_cases e : (atomD ys).1 = 0
  · cases e2 : (atomD ys).2.2 with
    | nil => rw [ruleD_end e e2]; exact (by decide : Cx 19)
    | cons k r => rw [ruleD_ok e e2]; exact goLt_cx _ _ _
  · rw [ruleD_bad e]; exact atomD_cx ys
theorem goR_cx : ∀ (m : Nat) (acc : List PR) (ys : List UInt8), Cx (goR m acc ys).1
  | 0, _, _ => (by decide : Cx 0)
  | m + 1, acc, ys => by rw [goR_succ]; exact cx_if (fun _ => ruleD_cx ys) (fun _ => goR_cx m _ _)
theorem goD_cx : ∀ (m : Nat) (acc : List PredInfo) (ys : List UInt8), Cx (goD m acc ys).1
  | 0, _, _ => (by decide : Cx 0)
  | m + 1, acc, [] => (by decide : Cx 19)
  | m + 1, acc, x :: r => by rw [goD_cons]; exact cx_if (fun _ => bitD_cx r) (fun _ => goD_cx m _ _)
theorem goP_cx : ∀ (m : Nat) (acc : List (List UInt8)) (ys : List UInt8), Cx (goP m acc ys).1
  | 0, _, _ => (by decide : Cx 0)
  | m + 1, acc, [] => (by decide : Cx 19)
  | m + 1, acc, x :: r => by rw [goP_cons]; exact cx_if (fun _ => (by decide : Cx 21)) (fun _ => cx_if (fun _ => (by decide : Cx 19)) (fun _ => cx_if (fun _ => (by decide : Cx 22)) (fun _ => goP_cx m _ _)))
theorem poolD_cx (ys : List UInt8) : Cx (poolD ys).1 := by
  match ys with
  | [] => exact (by decide : Cx 19)
  | [_] => exact (by decide : Cx 19)
  | h :: l :: r => exact goP_cx _ _ _
theorem decP_cx (xs : List UInt8) : Cx (decP xs).1 := by
  unfold decP
  refine cx_if (fun _ => (by decide : Cx 18)) (fun _ => cx_if (fun _ => poolD_cx _) (fun _ => ?_))
  generalize (poolD (xs.drop 4)).2.2 = ys
  generalize (poolD (xs.drop 4)).2.1 = pl
  cases ys with
  | nil => exact (by decide : Cx 19)
  | cons k r =>
    simp only [decPr]
    refine cx_if (fun _ => goD_cx _ _ _) (fun _ => ?_)
    generalize (goD k.toNat [] r).2.2 = zs
    cases zs with
    | nil => exact (by decide : Cx 19)
    | cons k r =>
      simp only [decRu]
      exact cx_if (fun _ => goR_cx _ _ _) (fun _ => cx_if (fun _ => (by decide : Cx 20)) (fun _ => (by decide : Cx 0)))
theorem verC_cx (p : PP) : Cx (verC p) := by
  unfold verC
  exact cx_int (fun _ => (by decide : Cx 24)) (fun _ => cx_int (fun _ => (by decide : Cx 25)) (fun _ => cx_int (fun _ => (by decide : Cx 26)) (fun _ => cx_int (fun _ => (by decide : Cx 27)) (fun _ => (by decide : Cx 0)))))
theorem VerR.cx {p p' : PP} {code : Int} (h : VerR p code p') : Cx code := by
  rcases h with ⟨-, rfl⟩ | ⟨-, res, -, ⟨-, rfl⟩ | ⟨ps, -, -, -, rfl, -⟩⟩
  · exact verC_cx p
  · decide
  · decide
theorem goCN_cx : ∀ (m : Nat) (acc : List (List UInt8)) (ys : List UInt8), Cx (goCN m acc ys).1
  | 0, _, _ => (by decide : Cx 0)
  | m + 1, acc, [] => (by decide : Cx 29)
  | m + 1, acc, x :: r => by
    unfold goCN
    exact cx_if (fun _ => (by decide : Cx 31)) (fun _ => cx_if (fun _ => (by decide : Cx 29)) (fun _ => goCN_cx m _ _))
theorem nodeD_cx (ys : List UInt8) : Cx (nodeD ys).1 := by
  cases ys with
  | nil => exact (by decide : Cx 29)
  | cons t r =>
    simp only [nodeD]
    refine cx_if (fun _ => (by decide : Cx 32)) (fun _ => ?_)
    cases r with
    | nil => exact (by decide : Cx 29)
    | cons w r2 =>
      cases h : refsD r2 with
      | none => simp only [h]; exact (by decide : Cx 29)
      | some x =>
        obtain ⟨vals, r3⟩ := x
        simp only [h]
        unfold nodB
        refine cx_if (fun _ => (by decide : Cx 0)) (fun _ => ?_)
        cases h2 : refsD r3 with
        | none => exact (by decide : Cx 29)
        | some y => exact (by decide : Cx 0)
theorem goCd_cx : ∀ (m : Nat) (acc : List CNode) (ys : List UInt8), Cx (goCd m acc ys).1
  | 0, _, _ => (by decide : Cx 0)
  | m + 1, acc, ys => by
    unfold goCd
    exact cx_if (fun _ => nodeD_cx ys) (fun _ => goCd_cx m _ _)
theorem decC_cx (xs : List UInt8) : Cx (decC xs).1 := by
  match xs with
  | [] => exact (by decide : Cx 29)
  | [_] => exact (by decide : Cx 29)
  | h :: l :: r =>
    simp only [decC]
    refine cx_if (fun _ => goCN_cx _ _ _) (fun _ => ?_)
    generalize (goCN (h.toNat * 256 + l.toNat) [] r).2.1 = nms
    generalize (goCN (h.toNat * 256 + l.toNat) [] r).2.2 = ys
    match ys with
    | [] => exact (by decide : Cx 29)
    | [_] => exact (by decide : Cx 29)
    | h :: l :: r =>
      simp only [decCn]
      exact cx_if (fun _ => (by decide : Cx 33)) (fun _ => cx_if (fun _ => (by decide : Cx 34)) (fun _ => cx_if (fun _ => goCd_cx _ _ _) (fun _ => cx_if (fun _ => (by decide : Cx 30)) (fun _ => (by decide : Cx 0)))))
theorem nbF_cx (R : List (List Tup)) (i : Nat) (vals refs : List Int) (bef : List Fact) : ∀ (ls : List PL) (u : Nat), Cx (nbF R i vals refs bef ls u).1
  | [], _ => (by decide : Cx 0)
  | l :: ls, u => by
    unfold nbF
    refine cx_if (fun _ => (by decide : Cx 39)) (fun _ => ?_)
    cases l.neg with
    | true => rw [if_pos rfl]; exact cx_if (fun _ => (by decide : Cx 42)) (fun _ => nbF_cx R i vals refs bef ls u)
    | false =>
      rw [if_neg (by decide)]
      exact cx_if (fun _ => (by decide : Cx 39)) (fun _ => cx_if (fun _ => (by decide : Cx 35)) (fun _ => cx_if (fun _ => (by decide : Cx 41)) (fun _ => nbF_cx R i vals refs bef ls (u + 1))))
theorem ndF_cx (p : PP) (N : List (List UInt8)) (R : List (List Tup)) (nms : List (List UInt8)) (i : Nat) (d : CNode) (bef : List Fact) : Cx (ndF p N R nms i d bef).1 := by
  rw [ndF_eq]
  cases nvF N nms d.vals [] with
  | none => exact (by decide : Cx 36)
  | some vals =>
    simp only [ndG]
    refine cx_if (fun _ => ?_) (fun _ => ?_)
    · unfold nlF
      exact cx_if (fun _ => (by decide : Cx 37)) (fun _ => cx_if (fun _ => (by decide : Cx 39)) (fun _ => cx_if (fun _ => (by decide : Cx 40)) (fun _ => (by decide : Cx 0))))
    · unfold nrF
      exact cx_if (fun _ => (by decide : Cx 38)) (fun _ => cx_if (fun _ => nbF_cx _ _ _ _ _ _ _) (fun _ => cx_if (fun _ => (by decide : Cx 39)) (fun _ => (by decide : Cx 0))))
theorem goK_cx (p : PP) (N : List (List UInt8)) (R : List (List Tup)) (nms : List (List UInt8)) : ∀ (ds : List CNode) (i : Nat) (bef : List Fact), Cx (goK p N R nms ds i bef).1
  | [], _, _ => (by decide : Cx 0)
  | d :: ds, i, bef => by
    unfold goK
    exact cx_if (fun _ => ndF_cx _ _ _ _ _ _ _) (fun _ => goK_cx p N R nms ds _ _)
theorem chkF_cx (p : PP) (N : List (List UInt8)) (R : List (List Tup)) (xs : List UInt8) : Cx (chkF p N R xs).1 := by
  unfold chkF
  exact cx_if (fun _ => decC_cx xs) (fun _ => cx_if (fun _ => goK_cx _ _ _ _ _ _ _) (fun _ => (by decide : Cx 0)))
theorem cuF_cx (p : PP) (pr n : Nat) : Cx (cuF p pr n) := by
  unfold cuF
  exact cx_int (fun _ => (by decide : Cx 11)) (fun _ => cx_int (fun _ => (by decide : Cx 12)) (fun _ => cx_int (fun _ => (by decide : Cx 13)) (fun _ => (by decide : Cx 0))))
theorem crF_cx (p : PP) (pr n : Nat) : Cx (crF p pr n) := by
  unfold crF
  exact cx_int (fun _ => (by decide : Cx 11)) (fun _ => cx_int (fun _ => (by decide : Cx 13)) (fun _ => (by decide : Cx 0)))
theorem AcR.n16 {p : PP} {c : Int} (h : AcR p c) : c ≠ 16 := by
  cases h <;> decide
/-- Two runs of the model's evaluation: over, both or none. -/
theorem pf_over {p : PP} (hv : PgV p) {F : List (List NRow)} (hl : F.length = p.preds.length) (hn : ∀ q, (F.getD q []).Nodup) {F1 F2 : List (List NRow)} {T1 T2 : List NStep} (h1 : PfTo p (constF p.pool F) 0 F [] F1 T1) (h2 : PfTo p (constF p.pool F) 0 F [] F2 T2) : overN F1 = overN F2 := by
  have hdom : ∀ q x, memN F q x → ∀ y ∈ x, y ∈ constF p.pool F := fun q x hx y hy => by
    refine constF_mem.2 (.inr ?_)
    have hx' : x ∈ F.getD q [] := hx
    rw [List.getD_eq_getElem?_getD] at hx'
    cases hq : F[q]? with
    | none => rw [hq] at hx'; cases hx'
    | some L => rw [hq] at hx'; exact ⟨L, List.mem_of_getElem? hq, x, hx', hy⟩
  have key : ∀ {F1 F2 : List (List NRow)} {T1 T2 : List NStep}, PfTo p (constF p.pool F) 0 F [] F1 T1 → PfTo p (constF p.pool F) 0 F [] F2 T2 → overN F1 = false → overN F2 = false := fun {F1 F2 T1 T2} h1 h2 e => by
    obtain ⟨m1, m2, m3, m4, m5⟩ := h1.lm (N := p.preds.length) (B := memN F) (fun r hr => ⟨hv.g.fit hr, (hv.g.rul r hr).2.2⟩) (fun r hr => (hv.g.pok.rl r hr).2) (fun x hx => constF_mem.2 (.inl hx)) hv.neg hv.top hl hdom hn ⟨fun q x hx => LM.up hx, fun q x hx => hx⟩ (Nat.zero_le _)
    obtain ⟨n1, n2, n3, n4, n5⟩ := h2.lm (N := p.preds.length) (B := memN F) (fun r hr => ⟨hv.g.fit hr, (hv.g.rul r hr).2.2⟩) (fun r hr => (hv.g.pok.rl r hr).2) (fun x hx => constF_mem.2 (.inl hx)) hv.neg hv.top hl hdom hn ⟨fun q x hx => LM.up hx, fun q x hx => hx⟩ (Nat.zero_le _)
    refine overN_not.2 fun q => Nat.le_trans (nodup_subG _ _ (n3 q) (fun x hx => m2 e q x (n1 q x hx))) (overN_not.1 e q)
  cases e1 : overN F1 with
  | false => rw [key h1 h2 e1]
  | true =>
    cases e2 : overN F2 with
    | true => rfl
    | false => rw [key h2 h1 e2] at e1; cases e1
end Go.Proofs.Qxb6500787aGreat
