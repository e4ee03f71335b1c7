
import Derived.Test.Qxb6500787aGreatVu
import Derived.StillTailTactics
import Derived.Deep.QuietTactic
import Derived.BigQuiet
import Derived.Deep.RegionHeld
import Derived.Deep.CutRange
import Derived.Laws.ResultCell
import Derived.Laws.Rows
import Derived.DeepKeys
import Derived.DataBytes
import Derived.Laws.StructEq
import Derived.Laws.AppendOwn
import Derived.Laws.MakeOwn
import Derived.Lib.AppendStr
set_option linter.unusedSimpArgs false
set_option linter.unusedVariables false
namespace Go.Proofs.Qxb6500787aGreat
open Go.RowKit Go.Blk
attribute [local go_sem ↓] execOp_load execOp_store execOp_alloc
attribute [local go_sem] Tryz.ld26 Tryz.st26 Tryz.ld27 Tryz.st27 Tryz.ld28 Tryz.st28 Tryz.ld3 Tryz.st3 Tryz.ld29 Tryz.st29 Tryz.ld44 Tryz.st44 Tryz.ld4 Tryz.st4 Tryz.ld50 Tryz.st50 Tryz.ld32 Tryz.st32 Tryz.ld49 Tryz.st49 Tryz.ld68 Tryz.st68 Tryz.ld9 Tryz.st9 Tryz.ld40 Tryz.st40 Tryz.ld138 Tryz.st138 Tryz.ld139 Tryz.st139 Tryz.ld146 Tryz.st146 Tryz.ld183 Tryz.st183 Tryz.ld184 Tryz.st184 Tryz.ld192 Tryz.st192 Tryz.ld195 Tryz.st195 Tryz.ld217 Tryz.st217 Tryz.ld159 Tryz.st159 Tryz.ld142 Tryz.st142 Tryz.ld2 Tryz.st2 Tryz.ld5 Tryz.st5 Tryz.ld12 Tryz.st12 Tryz.ld21 Tryz.st21 Tryz.ld22 Tryz.st22 Tryz.ld24 Tryz.st24 Tryz.ld58 Tryz.st58 Tryz.ld97 Tryz.st97 Tryz.ld101 Tryz.st101 Tryz.ld116 Tryz.st116 Tryz.ld121 Tryz.st121 Tryz.ld135 Tryz.st135 Tryz.ld136 Tryz.st136 Tryz.ld143 Tryz.st143 Tryz.ld148 Tryz.st148 Tryz.ld154 Tryz.st154 Tryz.ld173 Tryz.st173 Tryz.ld187 Tryz.st187 Tryz.ld222 Tryz.st222 Tryz.ld241 Tryz.st241 Tryz.ld248 Tryz.st248 Tryz.ld268 Tryz.st268 Tryz.ld272 Tryz.st272 Tryz.ld153 Tryz.st153 Tryz.ld255 Tryz.st255 Tryz.ld256 Tryz.st256 Tryz.ld129 Tryz.st129 Tryz.ld152 Tryz.st152 Tryz.ld31 Tryz.st31 Tryz.ld46 Tryz.st46 Tryz.ld52 Tryz.st52 Tryz.ld54 Tryz.st54 Tryz.ld60 Tryz.st60 Tryz.ld70 Tryz.st70 Tryz.ld74 Tryz.st74 Tryz.ld93 Tryz.st93 Tryz.ld141 Tryz.st141 Tryz.ld151 Tryz.st151 Tryz.ld170 Tryz.st170 Tryz.ld186 Tryz.st186 Tryz.ld189 Tryz.st189 Tryz.ld194 Tryz.st194 Tryz.ld197 Tryz.st197 Tryz.ld219 Tryz.st219 Tryz.ld224 Tryz.st224 Tryz.ld230 Tryz.st230 Tryz.ld235 Tryz.st235 Tryz.ld243 Tryz.st243 Tryz.ld247 Tryz.st247 Tryz.ld252 Tryz.st252 Tryz.ld258 Tryz.st258 Tryz.al153 Tryz.al255 Tryz.al256 Tryz.al129 Tryz.al152 Tryz.al31 Tryz.al46 Tryz.al52 Tryz.al54 Tryz.al60 Tryz.al70 Tryz.al74 Tryz.al93 Tryz.al141 Tryz.al151 Tryz.al170 Tryz.al186 Tryz.al189 Tryz.al194 Tryz.al197 Tryz.al219 Tryz.al224 Tryz.al230 Tryz.al235 Tryz.al243 Tryz.al247 Tryz.al252 Tryz.al258
attribute [local go_sem] Request.length_enc Request.ok_enc Request.all_get Request.all_set Request.kind_get Request.kind_set Request.blob_get Request.blob_set Request.items_get Request.items_set Request.pred_get Request.pred_set Request.slots_get Request.slots_set Trace.length_enc Trace.ok_enc Trace.all_get Trace.all_set Trace.op_get Trace.op_set Trace.calls_get Trace.calls_set Item.length_enc Item.ok_enc Item.all_get Item.all_set Item.del_get Item.del_set Item.pred_get Item.pred_set Item.args_get Item.args_set Reply.length_enc Reply.ok_enc Reply.all_get Reply.all_set Reply.code_get Reply.code_set Reply.kind_get Reply.kind_set Reply.index_get Reply.index_set Reply.yes_get Reply.yes_set Reply.preds_get Reply.preds_set Reply.rules_get Reply.rules_set Reply.arity_get Reply.arity_set Reply.rows_get Reply.rows_set Reply.fact_get Reply.fact_set Reply.fact_del_get Reply.fact_del_set Reply.fact_pred_get Reply.fact_pred_set Reply.fact_args_get Reply.fact_args_set GEntry.length_enc GEntry.ok_enc GEntry.all_get GEntry.all_set GEntry.seq_get GEntry.seq_set GEntry.kind_get GEntry.kind_set GEntry.code_get GEntry.code_set GOp.length_enc GOp.ok_enc GOp.all_get GOp.all_set GOp.kind_get GOp.kind_set GOp.raw_get GOp.raw_set Reader.length_enc Reader.ok_enc Reader.all_get Reader.all_set Reader.buf_get Reader.buf_set Reader.at__get Reader.at__set Slot.length_enc Slot.ok_enc Slot.all_get Slot.all_set Slot.bound_get Slot.bound_set Slot.name_get Slot.name_set Session.length_enc Session.ok_enc Session.all_get Session.all_set Session.svc_get Session.svc_set Session.buf_get Session.buf_set Session.closed_get Session.closed_set GProgram.length_enc GProgram.ok_enc GProgram.all_get GProgram.all_set GProgram.pool_get GProgram.pool_set GProgram.preds_get GProgram.preds_set GProgram.rules_get GProgram.rules_set GProgram.strata_get GProgram.strata_set PredInfo.length_enc PredInfo.ok_enc PredInfo.all_get PredInfo.all_set PredInfo.arity_get PredInfo.arity_set PredInfo.base_get PredInfo.base_set PredInfo.stratum_get PredInfo.stratum_set Change.length_enc Change.ok_enc Change.all_get Change.all_set Change.del_get Change.del_set Change.pred_get Change.pred_set Change.t_get Change.t_set Store.length_enc Store.ok_enc Store.all_get Store.all_set Store.names_get Store.names_set Store.arity_get Store.arity_set Store.rows_get Store.rows_set Src.length_enc Src.ok_enc Src.all_get Src.all_set Src.b_get Src.b_set Src.at__get Src.at__set Atom.length_enc Atom.ok_enc Atom.all_get Atom.all_set Atom.pred_get Atom.pred_set Atom.args_get Atom.args_set GRule.length_enc GRule.ok_enc GRule.all_get GRule.all_set GRule.head_get GRule.head_set GRule.body_get GRule.body_set GRule.head_pred_get GRule.head_pred_set GRule.head_args_get GRule.head_args_set Cert.length_enc Cert.ok_enc Cert.all_get Cert.all_set Cert.names_get Cert.names_set Cert.nodes_get Cert.nodes_set Fact.length_enc Fact.ok_enc Fact.all_get Fact.all_set Fact.pred_get Fact.pred_set Fact.t_get Fact.t_set Literal.length_enc Literal.ok_enc Literal.all_get Literal.all_set Literal.neg_get Literal.neg_set Literal.atom_get Literal.atom_set Literal.atom_pred_get Literal.atom_pred_set Literal.atom_args_get Literal.atom_args_set Engine.length_enc Engine.ok_enc Engine.all_get Engine.all_set Engine.prog_get Engine.prog_set Engine.st_get Engine.st_set SrcCertm.length_enc SrcCertm.ok_enc SrcCertm.all_get SrcCertm.all_set SrcCertm.b_get SrcCertm.b_set SrcCertm.at__get SrcCertm.at__set GNode.length_enc GNode.ok_enc GNode.all_get GNode.all_set GNode.rule_get GNode.rule_set GNode.pred_get GNode.pred_set GNode.vals_get GNode.vals_set GNode.refs_get GNode.refs_set Term.length_enc Term.ok_enc Term.all_get Term.all_set Term.var_get Term.var_set Term.n_get Term.n_set Env.length_enc Env.ok_enc Env.all_get Env.all_set Env.val_get Env.val_set Env.set_get Env.set_set
attribute [local go_sem] size_put size_ext blk_put free_put blk_alloc free_alloc blk_drew free_drew blk_ext free_ext lookOr_some putOr_some segAt_some cellAt_some storeIn_some put_put put_alloc_new length_arr ok_arr_u8 ok_arr_u32 ok_arr_u64 ok_arr_i64 ok_arr_sl cellsV_agg cellsV_int cellsV_bool cellsV_string cellsV_pointer cellsV_slice cellsV_sl ok_int ok_bool ok_string ok_pointer ok_slice ok_sl toList_arr seg_arr set_arr nth_splice nth_splice0 seg_splice seg_splice0 splice_splice splice_splice0 length_splice_if
attribute [local go_sem ↓] execOp_box
attribute [local go_sem] box_run nth_arr_u8 put_arr_u8 blk_drewN free_drewN put_drewN blk_raw free_raw
/-- A status that a request can be answered with, but for the one before a load. -/
def Cd (c : Int) : Prop := 0 ≤ c ∧ c < 43 ∧ c ≠ 10
instance (c : Int) : Decidable (Cd c) := inferInstanceAs (Decidable (_ ∧ _ ∧ _))
theorem cd_if {α : Type} {p : Prop} [Decidable p] {a b : Int × α} (ha : p → Cd a.1) (hb : ¬ p → Cd b.1) : Cd (if p then a else b).1 := by
  by_cases h : p
  · rw [if_pos h]; exact ha h
  · rw [if_neg h]; exact hb h
theorem cd_int {p : Prop} [Decidable p] {a b : Int} (ha : p → Cd a) (hb : ¬ p → Cd b) : Cd (if p then a else b) := by
  by_cases h : p
  · rw [if_pos h]; exact ha h
  · rw [if_neg h]; exact hb h
theorem nameF_cd (ys : List UInt8) : Cd (nameF ys).1 := by
  cases ys with
  | nil => exact (by decide : Cd 5)
  | cons x ys => rw [nameF_cons]; exact cd_if (fun _ => (by decide : Cd 9)) (fun _ => cd_if (fun _ => (by decide : Cd 5)) (fun _ => (by decide : Cd 0)))
theorem tagF_cd (ys : List UInt8) : Cd (tagF ys).1 := by
  cases ys with
  | nil => exact (by decide : Cd 5)
  | cons x ys => rw [tagF_cons]; exact cd_if (fun _ => (by decide : Cd 7)) (fun _ => (by decide : Cd 0))
theorem goN_cd : ∀ (m : Nat) (acc : List (List UInt8)) (ys : List UInt8), Cd (goN m acc ys).1
  | 0, _, _ => (by decide : Cd 0)
  | m + 1, acc, ys => by
    by_cases h : (nameF ys).1 = 0
    · rw [goN_ok h]; exact goN_cd m _ _
    · rw [goN_bad h]; exact nameF_cd ys
theorem factF_cd (ys : List UInt8) : Cd (factF ys).1 := by
  match ys with
  | [] => exact (by decide : Cd 5)
  | [_] => exact (by decide : Cd 5)
  | p :: k :: r => rw [factF_cons]; exact cd_if (fun _ => (by decide : Cd 8)) (fun _ => cd_if (fun _ => (by decide : Cd 0)) (fun _ => goN_cd _ _ _))
theorem goB_cd : ∀ (m : Nat) (acc : List It) (ys : List UInt8), Cd (goB m acc ys).1
  | 0, _, _ => (by decide : Cd 0)
  | m + 1, acc, ys => by
    by_cases h : (tagF ys).1 = 0
    · by_cases h2 : (factF (tagF ys).2.2).1 = 0
      · rw [goB_ok h h2]; exact goB_cd m _ _
      · rw [goB_bad2 h h2]; exact factF_cd _
    · rw [goB_bad1 h]; exact tagF_cd ys
theorem batchF_cd (ys : List UInt8) : Cd (batchF ys).1 := by
  cases ys with
  | nil => exact (by decide : Cd 5)
  | cons k r => rw [batchF_cons]; exact cd_if (fun _ => (by decide : Cd 16)) (fun _ => goB_cd _ _ _)
theorem goS_cd : ∀ (m : Nat) (acc : List Slt) (ys : List UInt8), Cd (goS m acc ys).1
  | 0, _, _ => (by decide : Cd 0)
  | m + 1, acc, ys => by
    by_cases h : (tagF ys).1 = 0
    · cases h1 : (tagF ys).2.1 with
      | false => rw [goS_free h h1]; exact goS_cd m _ _
      | true =>
        by_cases h2 : (nameF (tagF ys).2.2).1 = 0
        · rw [goS_ok h h1 h2]; exact goS_cd m _ _
        · rw [goS_bad2 h h1 h2]; exact nameF_cd _
    · rw [goS_bad1 h]; exact tagF_cd ys
theorem slotsF_cd (ys : List UInt8) : Cd (slotsF ys).1 := by
  cases ys with
  | nil => exact (by decide : Cd 5)
  | cons k r => rw [slotsF_cons]; exact cd_if (fun _ => (by decide : Cd 8)) (fun _ => goS_cd _ _ _)
theorem hdrF_cd (xs : List UInt8) : Cd (hdrF xs).1 := by
  by_cases h : xs.length < 4
  · rw [hdrF_short h]; exact (by decide : Cd 1)
  · obtain ⟨x0, x1, x2, x3, r, rfl⟩ := four (xs := xs) (by omega)
    rw [hdrF_cons]
    exact cd_if (fun _ => (by decide : Cd 2)) (fun _ => cd_if (fun _ => (by decide : Cd 3)) (fun _ => cd_if (fun _ => (by decide : Cd 4)) (fun _ => (by decide : Cd 0))))
theorem bodyF_cd (k : Int) (ys : List UInt8) : Cd (bodyF k ys).1 := by
  unfold bodyF
  refine cd_if (fun _ => (by decide : Cd 0)) (fun _ => cd_if (fun _ => factF_cd ys) (fun _ => cd_if (fun _ => batchF_cd ys) (fun _ => ?_)))
  cases ys with
  | nil => exact (by decide : Cd 5)
  | cons p r => exact slotsF_cd r
theorem decF_cd (xs : List UInt8) : Cd (decF xs).1 := by
  unfold decF
  refine cd_if (fun _ => hdrF_cd xs) (fun _ => ?_)
  unfold finF
  exact cd_if (fun _ => bodyF_cd _ _) (fun _ => cd_if (fun _ => (by decide : Cd 6)) (fun _ => (by decide : Cd 0)))
theorem bitD_cd (ys : List UInt8) : Cd (bitD ys).1 := by
  cases ys with
  | nil => exact (by decide : Cd 19)
  | cons x r => rw [bitD_cons]; exact cd_if (fun _ => (by decide : Cd 23)) (fun _ => (by decide : Cd 0))
theorem goT_cd : ∀ (m : Nat) (acc : List Term) (ys : List UInt8), Cd (goT m acc ys).1
  | 0, _, _ => (by decide : Cd 0)
  | m + 1, acc, ys => by
    by_cases e : (bitD ys).1 = 0
    · cases e2 : (bitD ys).2.2 with
      | nil => rw [goT_end e e2]; exact (by decide : Cd 19)
      | cons x r => rw [goT_ok e e2]; exact goT_cd m _ _
    · rw [goT_bad e]; exact bitD_cd ys
theorem atomD_cd (ys : List UInt8) : Cd (atomD ys).1 := by
  match ys with
  | [] => exact (by decide : Cd 19)
  | [_] => exact (by decide : Cd 19)
  | p :: k :: r => rw [atomD_cons]; exact goT_cd _ _ _
theorem goLt_cd : ∀ (m : Nat) (acc : List PL) (ys : List UInt8), Cd (goLt m acc ys).1
  | 0, _, _ => (by decide : Cd 0)
  | m + 1, acc, ys => by
    by_cases e : (bitD ys).1 = 0
    · by_cases e2 : (atomD (bitD ys).2.2).1 = 0
      · rw [goLt_ok e e2]; exact goLt_cd m _ _
      · rw [goLt_bad2 e e2]; exact atomD_cd _
    · rw [goLt_bad e]; exact bitD_cd ys
theorem ruleD_cd (ys : List UInt8) : Cd (ruleD ys).1 := by
  by_cases e : (atomD ys).1 = 0
  · cases e2 : (atomD ys).2.2 with
    | nil => rw [ruleD_end e e2]; exact (by decide : Cd 19)
    | cons k r => rw [ruleD_ok e e2]; exact goLt_cd _ _ _
  · rw [ruleD_bad e]; exact atomD_cd ys
theorem goR_cd : ∀ (m : Nat) (acc : List PR) (ys : List UInt8), Cd (goR m acc ys).1
  | 0, _, _ => (by decide : Cd 0)
  | m + 1, acc, ys => by rw [goR_succ]; exact cd_if (fun _ => ruleD_cd ys) (fun _ => goR_cd m _ _)
theorem goD_cd : ∀ (m : Nat) (acc : List PredInfo) (ys : List UInt8), Cd (goD m acc ys).1
  | 0, _, _ => (by decide : Cd 0)
  | m + 1, acc, [] => (by decide : Cd 19)
  | m + 1, acc, x :: r => by rw [goD_cons]; exact cd_if (fun _ => bitD_cd r) (fun _ => goD_cd m _ _)
theorem goP_cd : ∀ (m : Nat) (acc : List (List UInt8)) (ys : List UInt8), Cd (goP m acc ys).1
  | 0, _, _ => (by decide : Cd 0)
  | m + 1, acc, [] => (by decide : Cd 19)
  | m + 1, acc, x :: r => by rw [goP_cons]; exact cd_if (fun _ => (by decide : Cd 21)) (fun _ => cd_if (fun _ => (by decide : Cd 19)) (fun _ => cd_if (fun _ => (by decide : Cd 22)) (fun _ => goP_cd m _ _)))
theorem poolD_cd (ys : List UInt8) : Cd (poolD ys).1 := by
  match ys with
  | [] => exact (by decide : Cd 19)
  | [_] => exact (by decide : Cd 19)
  | h :: l :: r => exact goP_cd _ _ _
theorem decP_cd (xs : List UInt8) : Cd (decP xs).1 := by
  unfold decP
  refine cd_if (fun _ => (by decide : Cd 18)) (fun _ => cd_if (fun _ => poolD_cd _) (fun _ => ?_))
  generalize (poolD (xs.drop 4)).2.2 = ys
  generalize (poolD (xs.drop 4)).2.1 = pl
  cases ys with
  | nil => exact (by decide : Cd 19)
  | cons k r =>
    simp only [decPr]
    refine cd_if (fun _ => goD_cd _ _ _) (fun _ => ?_)
    generalize (goD k.toNat [] r).2.2 = zs
    cases zs with
    | nil => exact (by decide : Cd 19)
    | cons k r =>
      simp only [decRu]
      exact cd_if (fun _ => goR_cd _ _ _) (fun _ => cd_if (fun _ => (by decide : Cd 20)) (fun _ => (by decide : Cd 0)))
theorem verC_cd (p : PP) : Cd (verC p) := by
  unfold verC
  exact cd_int (fun _ => (by decide : Cd 24)) (fun _ => cd_int (fun _ => (by decide : Cd 25)) (fun _ => cd_int (fun _ => (by decide : Cd 26)) (fun _ => cd_int (fun _ => (by decide : Cd 27)) (fun _ => (by decide : Cd 0)))))
theorem VerR.cd {p p' : PP} {code : Int} (h : VerR p code p') : Cd code := by
  rcases h with ⟨-, rfl⟩ | ⟨-, res, -, ⟨-, rfl⟩ | ⟨ps, -, -, -, rfl, -⟩⟩
  · exact verC_cd p
  · decide
  · decide
theorem goCN_cd : ∀ (m : Nat) (acc : List (List UInt8)) (ys : List UInt8), Cd (goCN m acc ys).1
  | 0, _, _ => (by decide : Cd 0)
  | m + 1, acc, [] => (by decide : Cd 29)
  | m + 1, acc, x :: r => by
    unfold goCN
    exact cd_if (fun _ => (by decide : Cd 31)) (fun _ => cd_if (fun _ => (by decide : Cd 29)) (fun _ => goCN_cd m _ _))
theorem nodeD_cd (ys : List UInt8) : Cd (nodeD ys).1 := by
  cases ys with
  | nil => exact (by decide : Cd 29)
  | cons t r =>
    simp only [nodeD]
    refine cd_if (fun _ => (by decide : Cd 32)) (fun _ => ?_)
    cases r with
    | nil => exact (by decide : Cd 29)
    | cons w r2 =>
      cases h : refsD r2 with
      | none => simp only [h]; exact (by decide : Cd 29)
      | some x =>
        obtain ⟨vals, r3⟩ := x
        simp only [h]
        unfold nodB
        refine cd_if (fun _ => (by decide : Cd 0)) (fun _ => ?_)
        cases h2 : refsD r3 with
        | none => exact (by decide : Cd 29)
        | some y => exact (by decide : Cd 0)
theorem goCd_cd : ∀ (m : Nat) (acc : List CNode) (ys : List UInt8), Cd (goCd m acc ys).1
  | 0, _, _ => (by decide : Cd 0)
  | m + 1, acc, ys => by
    unfold goCd
    exact cd_if (fun _ => nodeD_cd ys) (fun _ => goCd_cd m _ _)
theorem decC_cd (xs : List UInt8) : Cd (decC xs).1 := by
  match xs with
  | [] => exact (by decide : Cd 29)
  | [_] => exact (by decide : Cd 29)
  | h :: l :: r =>
    simp only [decC]
    refine cd_if (fun _ => goCN_cd _ _ _) (fun _ => ?_)
    generalize (goCN (h.toNat * 256 + l.toNat) [] r).2.1 = nms
    generalize (goCN (h.toNat * 256 + l.toNat) [] r).2.2 = ys
    match ys with
    | [] => exact (by decide : Cd 29)
    | [_] => exact (by decide : Cd 29)
    | h :: l :: r =>
      simp only [decCn]
      exact cd_if (fun _ => (by decide : Cd 33)) (fun _ => cd_if (fun _ => (by decide : Cd 34)) (fun _ => cd_if (fun _ => goCd_cd _ _ _) (fun _ => cd_if (fun _ => (by decide : Cd 30)) (fun _ => (by decide : Cd 0)))))
theorem nbF_cd (R : List (List Tup)) (i : Nat) (vals refs : List Int) (bef : List Fact) : ∀ (ls : List PL) (u : Nat), Cd (nbF R i vals refs bef ls u).1
  | [], _ => (by decide : Cd 0)
  | l :: ls, u => by
    unfold nbF
    refine cd_if (fun _ => (by decide : Cd 39)) (fun _ => ?_)
    cases l.neg with
    | true => rw [if_pos rfl]; exact cd_if (fun _ => (by decide : Cd 42)) (fun _ => nbF_cd R i vals refs bef ls u)
    | false =>
      rw [if_neg (by decide)]
      exact cd_if (fun _ => (by decide : Cd 39)) (fun _ => cd_if (fun _ => (by decide : Cd 35)) (fun _ => cd_if (fun _ => (by decide : Cd 41)) (fun _ => nbF_cd R i vals refs bef ls (u + 1))))
theorem ndF_cd (p : PP) (N : List (List UInt8)) (R : List (List Tup)) (nms : List (List UInt8)) (i : Nat) (d : CNode) (bef : List Fact) : Cd (ndF p N R nms i d bef).1 := by
  rw [ndF_eq]
  cases nvF N nms d.vals [] with
  | none => exact (by decide : Cd 36)
  | some vals =>
    simp only [ndG]
    refine cd_if (fun _ => ?_) (fun _ => ?_)
    · unfold nlF
      exact cd_if (fun _ => (by decide : Cd 37)) (fun _ => cd_if (fun _ => (by decide : Cd 39)) (fun _ => cd_if (fun _ => (by decide : Cd 40)) (fun _ => (by decide : Cd 0))))
    · unfold nrF
      exact cd_if (fun _ => (by decide : Cd 38)) (fun _ => cd_if (fun _ => nbF_cd _ _ _ _ _ _ _) (fun _ => cd_if (fun _ => (by decide : Cd 39)) (fun _ => (by decide : Cd 0))))
theorem goK_cd (p : PP) (N : List (List UInt8)) (R : List (List Tup)) (nms : List (List UInt8)) : ∀ (ds : List CNode) (i : Nat) (bef : List Fact), Cd (goK p N R nms ds i bef).1
  | [], _, _ => (by decide : Cd 0)
  | d :: ds, i, bef => by
    unfold goK
    exact cd_if (fun _ => ndF_cd _ _ _ _ _ _ _) (fun _ => goK_cd p N R nms ds _ _)
theorem chkF_cd (p : PP) (N : List (List UInt8)) (R : List (List Tup)) (xs : List UInt8) : Cd (chkF p N R xs).1 := by
  unfold chkF
  exact cd_if (fun _ => decC_cd xs) (fun _ => cd_if (fun _ => goK_cd _ _ _ _ _ _ _) (fun _ => (by decide : Cd 0)))
theorem cuF_cd (p : PP) (pr n : Nat) : Cd (cuF p pr n) := by
  unfold cuF
  exact cd_int (fun _ => (by decide : Cd 11)) (fun _ => cd_int (fun _ => (by decide : Cd 12)) (fun _ => cd_int (fun _ => (by decide : Cd 13)) (fun _ => (by decide : Cd 0))))
theorem crF_cd (p : PP) (pr n : Nat) : Cd (crF p pr n) := by
  unfold crF
  exact cd_int (fun _ => (by decide : Cd 11)) (fun _ => cd_int (fun _ => (by decide : Cd 13)) (fun _ => (by decide : Cd 0)))
theorem MrR.cd {t t' : InsS} {L : List It} {c co : Int} (h : MrR t L c t' co) : Cd c := by
  rcases h with ⟨-, rfl, -⟩ | ⟨-, -, rfl, -⟩ | ⟨-, -, cc, s1, -, ⟨-, rfl, -⟩ | ⟨-, rfl, -⟩⟩ <;> decide
theorem BatR.cd {p : PP} {R : List (List Tup)} {cs : List Change} {c i : Int} {R' : List (List Tup)} (h : BatR p R cs c i R') : Cd c := by
  rcases h.code with e | e | e | e <;> (rw [e]; decide)
/-- What a reply is like. -/
structure RpK (kd : Int) (q : PRep) : Prop where
  kind : q.kind = kd
  code : Cd q.code
  b : RepB q
theorem b00 : (0 : Int) ≤ 0 ∧ (0 : Int) ≤ 255 := by decide
theorem b01 : (-1 : Int) ≤ -1 ∧ (-1 : Int) ≤ 255 := by decide
theorem b0r : ([] : List (List (List UInt8))).length ≤ 512 ∧ ∀ r ∈ ([] : List (List (List UInt8))), r.length ≤ 4 ∧ ∀ x ∈ r, x.length ≤ 64 := ⟨by simp, fun r h => by cases h⟩
theorem b0a : ([] : List (List UInt8)).length ≤ 4 ∧ ∀ x ∈ ([] : List (List UInt8)), x.length ≤ 64 := ⟨by simp, fun r h => by cases h⟩
theorem rpK_Z {c k i : Int} (hc : Cd c) (hk : 0 ≤ k ∧ k ≤ 255) (hi : -1 ≤ i ∧ i ≤ 255) : RpK k (prZ c k i) := ⟨rfl, hc, ⟨⟨hc.1, by have := hc.2.1; show c ≤ 255; omega⟩, hk, hi, b00, b00, b00, b0r, b00, b0a⟩⟩
theorem rk (k : Int) {c : Int} (hc : Cd c) (hk : 0 ≤ k ∧ k ≤ 255) : RpK k (plR (repZ c k (-1))) := rpK_Z hc hk b01
theorem rkI {c i : Int} (hc : Cd c) (hi : -1 ≤ i ∧ i ≤ 255) : RpK 4 (plR (repZ c 4 i)) := rpK_Z hc (by decide) hi
theorem inR.k {s s' : Sv} {t : InsS} {pr : Nat} {args : List (List UInt8)} {rep : Reply} (h : inR s t pr args rep s') : RpK 2 (plR rep) := by
  rcases h with ⟨-, rfl, -⟩ | ⟨-, mc, t1, co, hm, ⟨-, rfl, -⟩ | ⟨-, ⟨-, rfl, -⟩ | ⟨-, code, ix, R', hB, ⟨-, rfl, -⟩ | ⟨-, rfl, -⟩⟩⟩⟩
  · exact rk 2 (cuF_cd _ _ _) (by decide)
  · exact rk 2 hm.cd (by decide)
  · exact rk 2 (by decide) (by decide)
  · exact rk 2 hB.cd (by decide)
  · exact rk 2 (by decide) (by decide)
theorem rmR.k {s s' : Sv} {t : InsS} {pr : Nat} {args : List (List UInt8)} {rep : Reply} (h : rmR s t pr args rep s') : RpK 3 (plR rep) := by
  rcases h with ⟨-, rfl, -⟩ | ⟨-, code, ix, R', hB, ⟨-, rfl, -⟩ | ⟨-, rfl, -⟩⟩
  · exact rk 3 (cuF_cd _ _ _) (by decide)
  · exact rk 3 hB.cd (by decide)
  · exact rk 3 (by decide) (by decide)
theorem ckL_some {p : PP} : ∀ {L : List It} {i : Nat} {c : Int} {j : Nat}, ckL p L i = some (c, j) → Cd c ∧ c ≠ 0 ∧ i ≤ j ∧ j < i + L.length
  | [], _, _, _, h => by cases h
  | x :: L, i, c, j, h => by
    unfold ckL at h
    by_cases e : cuF p x.2.1.toNat x.2.2.length ≠ 0
    · rw [if_pos e] at h
      have h1 := Prod.mk.inj (Option.some.inj h)
      obtain ⟨rfl, rfl⟩ := h1
      exact ⟨cuF_cd _ _ _, e, Nat.le_refl _, by rw [List.length_cons]; omega⟩
    · rw [if_neg e] at h
      obtain ⟨h1, h2, h3, h4⟩ := ckL_some h
      exact ⟨h1, h2, by omega, by rw [List.length_cons]; omega⟩
theorem chgs_ix : ∀ (cs : List Change) (i : Nat) (B : List (List Tup)), -1 ≤ (chgs cs i B).2.1 ∧ (chgs cs i B).2.1 < i + cs.length
  | [], i, B => ⟨by show (-1 : Int) ≤ -1; omega, by show (-1 : Int) < _; simp; omega⟩
  | ch :: cs, i, B => by
    unfold chgs
    by_cases e : (changeF B ch).1 ≠ 0
    · rw [if_pos e]
      refine ⟨by show (-1 : Int) ≤ (i : Int); omega, by show (i : Int) < _; rw [List.length_cons]; omega⟩
    · rw [if_neg e]
      have := chgs_ix cs (i + 1) (changeF B ch).2
      rw [List.length_cons]
      refine ⟨this.1, by have := this.2; omega⟩
theorem BatR.ix {p : PP} {R : List (List Tup)} {cs : List Change} {c i : Int} {R' : List (List Tup)} (h : BatR p R cs c i R') : -1 ≤ i ∧ i < cs.length ∨ i = -1 := by
  rcases h with ⟨-, -, rfl, -⟩ | ⟨-, P, -, -, -, rfl, -⟩
  · have := chgs_ix cs 0 (basR p R)
    exact .inl ⟨this.1, by have := this.2; omega⟩
  · exact .inr rfl
theorem btS_len (X : Int × List (List UInt8) × List Change) (it : It) : (btS X it).2.2.length ≤ X.2.2.length + 1 := by
  unfold btS
  by_cases e : X.1 ≠ 0
  · rw [if_pos e]; omega
  · rw [if_neg e]
    by_cases e1 : it.1 = true
    · rw [if_pos e1]; simp
    · rw [if_neg e1]
      by_cases e2 : (intF X.2.1 it.2.2).1 ≠ 0
      · rw [if_pos e2]; simp
      · rw [if_neg e2]; simp
theorem bts_len : ∀ (L : List It) (X : Int × List (List UInt8) × List Change), (L.foldl btS X).2.2.length ≤ X.2.2.length + L.length
  | [], X => by simp
  | it :: L, X => by
    rw [List.foldl_cons, List.length_cons]
    have h1 := bts_len L (btS X it)
    have h2 := btS_len X it
    omega
theorem btR.k {s s' : Sv} {t : InsS} {L : List It} (hL : L.length ≤ 255) {rep : Reply} (h : btR s t L rep s') : RpK 4 (plR rep) := by
  rcases h with ⟨c, i, hk, rfl, -⟩ | ⟨-, mc, t1, co, hm, ⟨-, rfl, -⟩ | ⟨-, ⟨-, rfl, -⟩ | ⟨-, code, ix, R', hB, ⟨-, rfl, -⟩ | ⟨-, rfl, -⟩⟩⟩⟩
  · obtain ⟨h1, -, h3, h4⟩ := ckL_some hk
    exact rkI h1 ⟨by show (-1 : Int) ≤ (i : Int); omega, by show (i : Int) ≤ 255; omega⟩
  · exact rk 4 hm.cd (by decide)
  · exact rk 4 (by decide) (by decide)
  · have h1 := bts_len L (0, t1.N, [])
    have h2 : (btF t1.N L).2.2.length ≤ L.length := by
      have h3 : ((0, t1.N, []) : Int × List (List UInt8) × List Change).2.2.length = 0 := rfl
      unfold btF
      omega
    refine rkI hB.cd ?_
    rcases hB.ix with ⟨i1, i2⟩ | i1
    · omega
    · omega
  · exact rk 4 (by decide) (by decide)
theorem ldR.k {s s' : Sv} {xs : List UInt8} {rep : Reply} (h : ldR s xs rep s') : RpK 1 (plR rep) := by
  rcases h with ⟨-, rfl, -⟩ | ⟨h0, vc, p', hv, ⟨-, rfl, -⟩ | ⟨rfl, P, hF, ⟨-, rfl, -⟩ | ⟨-, rfl, -⟩⟩⟩
  · exact rk 1 (decP_cd _) (by decide)
  · exact rk 1 hv.cd (by decide)
  · exact rk 1 (by decide) (by decide)
  · have hp := (verR_ok (decP_ok h0) hv).1
    have h1 := hp.nD
    have h2 := hp.nR
    exact ⟨rfl, (by decide : Cd 0), ⟨b00, (by decide : (0 : Int) ≤ 1 ∧ (1 : Int) ≤ 255), b01, ⟨by show (0 : Int) ≤ (p'.preds.length : Int); omega, by show (p'.preds.length : Int) ≤ 255; omega⟩, ⟨by show (0 : Int) ≤ (p'.rules.length : Int); omega, by show (p'.rules.length : Int) ≤ 255; omega⟩, b00, b0r, b00, b0a⟩⟩
theorem qyF.k (s : Sv) (t : InsS) (pr : Nat) (args : List (List UInt8)) : RpK 5 (plR (qyF s t pr args).1) := by
  unfold qyF
  by_cases e : crF t.p pr args.length ≠ 0
  · rw [if_pos e]; exact rk 5 (crF_cd _ _ _) (by decide)
  · rw [if_neg e]
    exact ⟨rfl, (by decide : Cd 0), ⟨b00, (by decide : (0 : Int) ≤ 5 ∧ (5 : Int) ≤ 255), b01, b00, b00, b00, b0r, b00, b0a⟩⟩
theorem nmsT_64' {t : InsS} (h : InG t) (x : Tup) (n : Nat) : ∀ y ∈ nmsT t.N x n, y.length ≤ 64 := fun y hy => by
  unfold nmsT at hy
  obtain ⟨c, hc, rfl⟩ := List.mem_map.1 hy
  exact getD64 h.nn.2 _
theorem ptQ.k {t : InsS} (h : InG t) (pr : Nat) (L : List Slt) (hL : L.length ≤ 4) : RpK 6 (ptQ t pr L) := by
  unfold ptQ
  by_cases e : crF t.p pr L.length ≠ 0
  · rw [if_pos e]; exact rpK_Z (crF_cd _ _ _) (by decide) b01
  · rw [if_neg e]
    refine ⟨rfl, (by decide : Cd 0), ⟨b00, (by decide : (0 : Int) ≤ 6 ∧ (6 : Int) ≤ 255), b01, b00, b00, ⟨by show (0 : Int) ≤ (L.length : Int); omega, by show (L.length : Int) ≤ 255; omega⟩, ⟨?_, fun r hr => ?_⟩, b00, b0a⟩⟩
    · show (srtR _).length ≤ 512
      rw [srtR_len, List.length_map]
      refine Nat.le_trans (List.length_filter_le _ _) ?_
      by_cases hr : pr < t.R.length
      · exact cap_of h.cap _ (by unfold rowsAt; rw [List.getD_eq_getElem?_getD, List.getElem?_eq_getElem hr]; exact List.getElem_mem hr)
      · unfold rowsAt; rw [List.getD_eq_getElem?_getD, List.getElem?_eq_none (by omega)]; simp
    · obtain ⟨x, hx, rfl⟩ := List.mem_map.1 (srtR_mem hr)
      exact ⟨by rw [nmsT_len]; exact hL, nmsT_64' h x _⟩
theorem grQ.k {t : InsS} (h : InG t) (xs : List UInt8) : RpK 7 (grQ t xs) := by
  unfold grQ
  by_cases e : (chkF t.p t.N t.R xs).1 ≠ 0
  · rw [if_pos e]; exact rpK_Z (chkF_cd _ _ _ _) (by decide) b01
  · rw [if_neg e]
    obtain ⟨f1, f2, f3⟩ := chkF_ok h (Decidable.of_not_not e)
    have hp := h.pg.pok
    have h4 := (pI_ar hp f2).2
    have h5 := hp.nD
    refine ⟨rfl, (by decide : Cd 0), ⟨b00, (by decide : (0 : Int) ≤ 7 ∧ (7 : Int) ≤ 255), b01, b00, b00, b00, b0r, ⟨f1, by show (chkF t.p t.N t.R xs).2.pred ≤ 255; omega⟩, ⟨by show (nmsT _ _ _).length ≤ 4; rw [nmsT_len]; exact h4, nmsT_64' h _ _⟩⟩⟩
/-- The reply to a decoded request. -/
theorem dsR.k {s s' : Sv} {q : Rq} (hw : RqWf q) (hI : ∀ t, s.inst = some t → InG t) {r : PRep} (h : dsR s q r s') : (s.inst = none ∧ q.kind ≠ 1 ∧ r = prZ 10 q.kind (-1) ∧ s' = s) ∨ RpK q.kind r := by
  rcases h with ⟨hk, rep, hP, rfl⟩ | ⟨hk, hn, rfl, rfl⟩ | ⟨t, ht, h⟩
  · rw [hk]; exact .inr hP.k
  · exact .inl ⟨hn, hk, rfl, rfl⟩
  · have hg := hI t ht
    right
    rcases h with ⟨hk, rep, hP, rfl⟩ | ⟨hk, rep, hP, rfl⟩ | ⟨hk, rep, hP, rfl⟩ | ⟨hk, rep, hP, rfl⟩ | ⟨hk, rfl, -⟩ | ⟨hk, rfl, -⟩
    · rw [hk]; exact hP.k
    · rw [hk]; exact hP.k
    · rw [hk]; exact hP.k hw.len
    · rw [hk]
      have e : rep = (qyF s t (itP q) (itA q)).1 := congrArg Prod.fst hP
      rw [e]; exact qyF.k _ _ _ _
    · rw [hk]; exact ptQ.k hg _ _ hw.slots
    · rw [hk]; exact grQ.k hg _
theorem dsR.ing {s s' : Sv} {q : Rq} (hw : RqWf q) (hI : ∀ t, s.inst = some t → InG t) {r : PRep} (h : dsR s q r s') : ∀ t', s'.inst = some t' → InG t' := by
  rcases h with ⟨hk, rep, hP, rfl⟩ | ⟨hk, hn, rfl, rfl⟩ | ⟨t, ht, h⟩
  · exact hP.ing hI
  · exact hI
  · have hg := hI t ht
    have hit : q.kind = 2 ∨ q.kind = 3 ∨ q.kind = 5 → ∀ x ∈ itA q, x.length ≤ 64 := fun hk x hx => by
      obtain ⟨p, args, e⟩ := hw.one hk
      unfold itA at hx
      rw [e] at hx
      exact (hw.its (decide (q.kind = 3), p, args) (by rw [e]; exact List.mem_cons_self)).2.2 x hx
    have one : ∀ {t' : InsS}, s'.inst = some t' → InG t' → ∀ t'', s'.inst = some t'' → InG t'' := fun h1 h2 t'' h3 => by
      rw [h1] at h3; cases h3; exact h2
    rcases h with ⟨hk, rep, hP, rfl⟩ | ⟨hk, rep, hP, rfl⟩ | ⟨hk, rep, hP, rfl⟩ | ⟨hk, rep, hP, rfl⟩ | ⟨hk, rfl, e⟩ | ⟨hk, rfl, e⟩
    · obtain ⟨t', h1, h2⟩ := hP.ing hg (hit (.inl hk)) ht
      exact one h1 h2
    · obtain ⟨t', h1, h2⟩ := hP.ing hg ht
      exact one h1 h2
    · obtain ⟨t', h1, h2⟩ := hP.ing hg (fun it hi => ⟨(hw.its it hi).1, (hw.its it hi).2.2⟩) ht
      exact one h1 h2
    · have e : s' = (qyF s t (itP q) (itA q)).2 := congrArg Prod.snd hP
      have e2 : s'.inst = s.inst := by
        rw [e]; unfold qyF
        by_cases h9 : crF t.p (itP q) (itA q).length ≠ 0
        · rw [if_pos h9]
        · rw [if_neg h9]
      rw [e2]; exact hI
    · have e2 : s'.inst = some t := by
        rw [e]
        by_cases h9 : crF t.p q.pred.toNat q.slots.length ≠ 0
        · rw [if_pos h9]; exact ht
        · rw [if_neg h9]; rfl
      exact one e2 hg
    · exact one (t' := t) (by rw [e]; rfl) hg
end Go.Proofs.Qxb6500787aGreat
