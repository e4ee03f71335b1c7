import Derived.Test.Qxb6500787aGreatMj

import Derived.StillTailTactics
import Derived.Deep.QuietTactic
import Derived.BigQuiet
import Derived.Deep.RegionHeld
import Derived.Deep.CutRange
import Derived.Laws.ResultCell
import Derived.Laws.Rows
import Derived.DeepKeys
import Derived.DataBytes
import Derived.Laws.StructEq
import Derived.Laws.AppendOwn
import Derived.Laws.MakeOwn
import Derived.Lib.AppendStr
set_option linter.unusedSimpArgs false
set_option linter.unusedVariables false
namespace Go.Proofs.Qxb6500787aGreat
open Go.RowKit Go.Blk
attribute [local go_sem ↓] execOp_load execOp_store execOp_alloc
attribute [local go_sem] Tryz.ld26 Tryz.st26 Tryz.ld27 Tryz.st27 Tryz.ld28 Tryz.st28 Tryz.ld3 Tryz.st3 Tryz.ld29 Tryz.st29 Tryz.ld44 Tryz.st44 Tryz.ld4 Tryz.st4 Tryz.ld50 Tryz.st50 Tryz.ld32 Tryz.st32 Tryz.ld49 Tryz.st49 Tryz.ld68 Tryz.st68 Tryz.ld9 Tryz.st9 Tryz.ld40 Tryz.st40 Tryz.ld138 Tryz.st138 Tryz.ld139 Tryz.st139 Tryz.ld146 Tryz.st146 Tryz.ld183 Tryz.st183 Tryz.ld184 Tryz.st184 Tryz.ld192 Tryz.st192 Tryz.ld195 Tryz.st195 Tryz.ld217 Tryz.st217 Tryz.ld159 Tryz.st159 Tryz.ld142 Tryz.st142 Tryz.ld2 Tryz.st2 Tryz.ld5 Tryz.st5 Tryz.ld12 Tryz.st12 Tryz.ld21 Tryz.st21 Tryz.ld22 Tryz.st22 Tryz.ld24 Tryz.st24 Tryz.ld58 Tryz.st58 Tryz.ld97 Tryz.st97 Tryz.ld101 Tryz.st101 Tryz.ld116 Tryz.st116 Tryz.ld121 Tryz.st121 Tryz.ld135 Tryz.st135 Tryz.ld136 Tryz.st136 Tryz.ld143 Tryz.st143 Tryz.ld148 Tryz.st148 Tryz.ld154 Tryz.st154 Tryz.ld173 Tryz.st173 Tryz.ld187 Tryz.st187 Tryz.ld222 Tryz.st222 Tryz.ld241 Tryz.st241 Tryz.ld248 Tryz.st248 Tryz.ld268 Tryz.st268 Tryz.ld272 Tryz.st272 Tryz.ld153 Tryz.st153 Tryz.ld255 Tryz.st255 Tryz.ld256 Tryz.st256 Tryz.ld129 Tryz.st129 Tryz.ld152 Tryz.st152 Tryz.ld31 Tryz.st31 Tryz.ld46 Tryz.st46 Tryz.ld52 Tryz.st52 Tryz.ld54 Tryz.st54 Tryz.ld60 Tryz.st60 Tryz.ld70 Tryz.st70 Tryz.ld74 Tryz.st74 Tryz.ld93 Tryz.st93 Tryz.ld141 Tryz.st141 Tryz.ld151 Tryz.st151 Tryz.ld170 Tryz.st170 Tryz.ld186 Tryz.st186 Tryz.ld189 Tryz.st189 Tryz.ld194 Tryz.st194 Tryz.ld197 Tryz.st197 Tryz.ld219 Tryz.st219 Tryz.ld224 Tryz.st224 Tryz.ld230 Tryz.st230 Tryz.ld235 Tryz.st235 Tryz.ld243 Tryz.st243 Tryz.ld247 Tryz.st247 Tryz.ld252 Tryz.st252 Tryz.ld258 Tryz.st258 Tryz.al153 Tryz.al255 Tryz.al256 Tryz.al129 Tryz.al152 Tryz.al31 Tryz.al46 Tryz.al52 Tryz.al54 Tryz.al60 Tryz.al70 Tryz.al74 Tryz.al93 Tryz.al141 Tryz.al151 Tryz.al170 Tryz.al186 Tryz.al189 Tryz.al194 Tryz.al197 Tryz.al219 Tryz.al224 Tryz.al230 Tryz.al235 Tryz.al243 Tryz.al247 Tryz.al252 Tryz.al258
attribute [local go_sem] Request.length_enc Request.ok_enc Request.all_get Request.all_set Request.kind_get Request.kind_set Request.blob_get Request.blob_set Request.items_get Request.items_set Request.pred_get Request.pred_set Request.slots_get Request.slots_set Trace.length_enc Trace.ok_enc Trace.all_get Trace.all_set Trace.op_get Trace.op_set Trace.calls_get Trace.calls_set Item.length_enc Item.ok_enc Item.all_get Item.all_set Item.del_get Item.del_set Item.pred_get Item.pred_set Item.args_get Item.args_set Reply.length_enc Reply.ok_enc Reply.all_get Reply.all_set Reply.code_get Reply.code_set Reply.kind_get Reply.kind_set Reply.index_get Reply.index_set Reply.yes_get Reply.yes_set Reply.preds_get Reply.preds_set Reply.rules_get Reply.rules_set Reply.arity_get Reply.arity_set Reply.rows_get Reply.rows_set Reply.fact_get Reply.fact_set Reply.fact_del_get Reply.fact_del_set Reply.fact_pred_get Reply.fact_pred_set Reply.fact_args_get Reply.fact_args_set GEntry.length_enc GEntry.ok_enc GEntry.all_get GEntry.all_set GEntry.seq_get GEntry.seq_set GEntry.kind_get GEntry.kind_set GEntry.code_get GEntry.code_set GOp.length_enc GOp.ok_enc GOp.all_get GOp.all_set GOp.kind_get GOp.kind_set GOp.raw_get GOp.raw_set Reader.length_enc Reader.ok_enc Reader.all_get Reader.all_set Reader.buf_get Reader.buf_set Reader.at__get Reader.at__set Slot.length_enc Slot.ok_enc Slot.all_get Slot.all_set Slot.bound_get Slot.bound_set Slot.name_get Slot.name_set Session.length_enc Session.ok_enc Session.all_get Session.all_set Session.svc_get Session.svc_set Session.buf_get Session.buf_set Session.closed_get Session.closed_set GProgram.length_enc GProgram.ok_enc GProgram.all_get GProgram.all_set GProgram.pool_get GProgram.pool_set GProgram.preds_get GProgram.preds_set GProgram.rules_get GProgram.rules_set GProgram.strata_get GProgram.strata_set PredInfo.length_enc PredInfo.ok_enc PredInfo.all_get PredInfo.all_set PredInfo.arity_get PredInfo.arity_set PredInfo.base_get PredInfo.base_set PredInfo.stratum_get PredInfo.stratum_set Change.length_enc Change.ok_enc Change.all_get Change.all_set Change.del_get Change.del_set Change.pred_get Change.pred_set Change.t_get Change.t_set Store.length_enc Store.ok_enc Store.all_get Store.all_set Store.names_get Store.names_set Store.arity_get Store.arity_set Store.rows_get Store.rows_set Src.length_enc Src.ok_enc Src.all_get Src.all_set Src.b_get Src.b_set Src.at__get Src.at__set Atom.length_enc Atom.ok_enc Atom.all_get Atom.all_set Atom.pred_get Atom.pred_set Atom.args_get Atom.args_set GRule.length_enc GRule.ok_enc GRule.all_get GRule.all_set GRule.head_get GRule.head_set GRule.body_get GRule.body_set GRule.head_pred_get GRule.head_pred_set GRule.head_args_get GRule.head_args_set Cert.length_enc Cert.ok_enc Cert.all_get Cert.all_set Cert.names_get Cert.names_set Cert.nodes_get Cert.nodes_set Fact.length_enc Fact.ok_enc Fact.all_get Fact.all_set Fact.pred_get Fact.pred_set Fact.t_get Fact.t_set Literal.length_enc Literal.ok_enc Literal.all_get Literal.all_set Literal.neg_get Literal.neg_set Literal.atom_get Literal.atom_set Literal.atom_pred_get Literal.atom_pred_set Literal.atom_args_get Literal.atom_args_set Engine.length_enc Engine.ok_enc Engine.all_get Engine.all_set Engine.prog_get Engine.prog_set Engine.st_get Engine.st_set SrcCertm.length_enc SrcCertm.ok_enc SrcCertm.all_get SrcCertm.all_set SrcCertm.b_get SrcCertm.b_set SrcCertm.at__get SrcCertm.at__set GNode.length_enc GNode.ok_enc GNode.all_get GNode.all_set GNode.rule_get GNode.rule_set GNode.pred_get GNode.pred_set GNode.vals_get GNode.vals_set GNode.refs_get GNode.refs_set Term.length_enc Term.ok_enc Term.all_get Term.all_set Term.var_get Term.var_set Term.n_get Term.n_set Env.length_enc Env.ok_enc Env.all_get Env.all_set Env.val_get Env.val_set Env.set_get Env.set_set
attribute [local go_sem] size_put size_ext blk_put free_put blk_alloc free_alloc blk_drew free_drew blk_ext free_ext lookOr_some putOr_some segAt_some cellAt_some storeIn_some put_put put_alloc_new length_arr ok_arr_u8 ok_arr_u32 ok_arr_u64 ok_arr_i64 ok_arr_sl cellsV_agg cellsV_int cellsV_bool cellsV_string cellsV_pointer cellsV_slice cellsV_sl ok_int ok_bool ok_string ok_pointer ok_slice ok_sl toList_arr seg_arr set_arr nth_splice nth_splice0 seg_splice seg_splice0 splice_splice splice_splice0 length_splice_if
attribute [local go_sem ↓] execOp_box
attribute [local go_sem] box_run nth_arr_u8 put_arr_u8 blk_drewN free_drewN put_drewN blk_raw free_raw
/-- One round of the rules of a stratum, from rule n on. -/
inductive RdTo (p : PP) (dom : List (List UInt8)) (F : List (List NRow)) (s : Nat) : Nat → List NStep → List NStep → Prop where
  | fin (n : Nat) (S : List NStep) : p.rules.length ≤ n → RdTo p dom F s n S S
  | skip (n : Nat) (S out : List NStep) (r : PR) : p.rules[n]? = some r → (pI p r.head.pred).stratum ≠ (s : Int) → RdTo p dom F s (n + 1) S out → RdTo p dom F s n S out
  | take (n : Nat) (S S1 out : List NStep) (r : PR) : p.rules[n]? = some r → (pI p r.head.pred).stratum = (s : Int) → conR p.pool dom F r n S S1 → RdTo p dom F s (n + 1) S1 out → RdTo p dom F s n S out
/-- All that was found is added. -/
def addAll (F : List (List NRow)) (S : List NStep) : List (List NRow) := S.foldl (fun F s => addRN F s.pred s.row) F
/-- The model's perfect model: by rounds, stratum by stratum. -/
inductive PfTo (p : PP) (dom : List (List UInt8)) : Nat → List (List NRow) → List NStep → List (List NRow) → List NStep → Prop where
  | fin (s : Nat) (F : List (List NRow)) (T : List NStep) : ¬ (s : Int) < p.strata → PfTo p dom s F T F T
  | next (s : Nat) (F F' : List (List NRow)) (T T' : List NStep) : (s : Int) < p.strata → RdTo p dom F s 0 [] [] → PfTo p dom (s + 1) F T F' T' → PfTo p dom s F T F' T'
  | stop (s : Nat) (F : List (List NRow)) (T S : List NStep) : (s : Int) < p.strata → RdTo p dom F s 0 [] S → S ≠ [] → overN (addAll F S) = true → PfTo p dom s F T (addAll F S) (T ++ S)
  | again (s : Nat) (F F' : List (List NRow)) (T T' S : List NStep) : (s : Int) < p.strata → RdTo p dom F s 0 [] S → S ≠ [] → overN (addAll F S) = false → PfTo p dom s (addAll F S) (T ++ S) F' T' → PfTo p dom s F T F' T'
/-- How many rows there are. -/
def totN (F : List (List NRow)) : Nat := (F.map List.length).sum
theorem addRN_len (F : List (List NRow)) (q : Nat) (r : NRow) : (addRN F q r).length = F.length := List.length_set ..
theorem addAll_len : ∀ (S : List NStep) (F : List (List NRow)), (addAll F S).length = F.length
  | [], F => rfl
  | s :: S, F => by
    show (addAll (addRN F s.pred s.row) S).length = _
    rw [addAll_len S, addRN_len]
theorem tot_add : ∀ (F : List (List NRow)) (q : Nat) (r : NRow), q < F.length → totN (addRN F q r) = totN F + 1
  | [], q, r, h => by simp at h
  | L :: F, 0, r, _ => by
    have e : addRN (L :: F) 0 r = (L ++ [r]) :: F := rfl
    unfold totN
    rw [e]
    simp only [List.map_cons, List.sum_cons, List.length_append, List.length_singleton]
    omega
  | L :: F, q + 1, r, h => by
    have ih := tot_add F q r (by simp at h; omega)
    unfold totN at ih ⊢
    have e : addRN (L :: F) (q + 1) r = L :: addRN F q r := rfl
    rw [e]
    simp only [List.map_cons, List.sum_cons]
    omega
theorem tot_all : ∀ (S : List NStep) (F : List (List NRow)), (∀ s ∈ S, s.pred < F.length) → totN (addAll F S) = totN F + S.length
  | [], F, _ => rfl
  | s :: S, F, h => by
    show totN (addAll (addRN F s.pred s.row) S) = _
    rw [tot_all S _ (fun x hx => by rw [addRN_len]; exact h x (List.mem_cons_of_mem _ hx)), tot_add F _ _ (h s List.mem_cons_self), List.length_cons]
    omega
theorem tot_le : ∀ (F : List (List NRow)) (B : Nat), (∀ L ∈ F, L.length ≤ B) → totN F ≤ F.length * B
  | [], B, _ => by simp [totN]
  | L :: F, B, h => by
    have ih := tot_le F B (fun x hx => h x (List.mem_cons_of_mem _ hx))
    have h1 := h L List.mem_cons_self
    unfold totN at ih ⊢
    simp only [List.map_cons, List.sum_cons, List.length_cons, Nat.add_mul]
    omega
theorem overN_le {F : List (List NRow)} (h : overN F = false) : ∀ L ∈ F, L.length ≤ 512 := fun L hL => by
  unfold overN at h
  rw [List.any_eq_false] at h
  have := h L hL
  rw [decide_eq_true_eq] at this
  omega
theorem addAll_snoc (F : List (List NRow)) (S : List NStep) (s : NStep) : addAll F (S ++ [s]) = addRN (addAll F S) s.pred s.row := by
  unfold addAll
  rw [List.foldl_append]
  rfl
theorem addRN_mem {F : List (List NRow)} {q : Nat} {r : NRow} {L : List NRow} (h : L ∈ addRN F q r) : L ∈ F ∨ L = F.getD q [] ++ [r] := by
  unfold addRN at h
  rcases List.mem_or_eq_of_mem_set h with h | h
  · exact .inl h
  · exact .inr h
theorem getD_len {F : List (List NRow)} {B : Nat} (h : ∀ L ∈ F, L.length ≤ B) (q : Nat) : (F.getD q []).length ≤ B := by
  rw [List.getD_eq_getElem?_getD]
  cases hx : F[q]? with
  | none => exact Nat.zero_le _
  | some L => exact h L (List.mem_of_getElem? hx)
theorem addAll_bd : ∀ (S : List NStep) (F : List (List NRow)) (B : Nat), (∀ L ∈ F, L.length ≤ B) → ∀ L ∈ addAll F S, L.length ≤ B + S.length
  | [], F, B, h, L, hL => h L hL
  | s :: S, F, B, h, L, hL => by
    have h1 := addAll_bd S (addRN F s.pred s.row) (B + 1) (fun M hM => by
      rcases addRN_mem hM with h9 | h9
      · have := h M h9; omega
      · rw [h9, List.length_append, List.length_singleton]
        have := getD_len h s.pred
        omega) L hL
    rw [List.length_cons]; omega
/-- All rows are short. -/
def Rows4 (F : List (List NRow)) : Prop := ∀ L ∈ F, ∀ r ∈ L, r.length ≤ 4
theorem Rows4.add {F : List (List NRow)} (h : Rows4 F) {q : Nat} {r : NRow} (hr : r.length ≤ 4) : Rows4 (addRN F q r) := fun L hL x hx => by
  rcases addRN_mem hL with h9 | h9
  · exact h L h9 x hx
  · rw [h9] at hx
    rcases List.mem_append.1 hx with h8 | h8
    · rw [List.getD_eq_getElem?_getD] at h8
      cases hy : F[q]? with
      | none => rw [hy] at h8; cases h8
      | some M => rw [hy] at h8; exact h M (List.mem_of_getElem? hy) x h8
    · rw [List.mem_singleton.1 h8]; exact hr
theorem Rows4.all : ∀ (S : List NStep) {F : List (List NRow)}, Rows4 F → (∀ s ∈ S, s.row.length ≤ 4) → Rows4 (addAll F S)
  | [], F, h, _ => h
  | s :: S, F, h, hs => Rows4.all S (h.add (hs s List.mem_cons_self)) (fun x hx => hs x (List.mem_cons_of_mem _ hx))
/-- The lists and the steps, in memory. -/
structure PfS (W : World) (bo : Nat) (O : Own) (V : World) (F : List (List NRow)) (ta : Option Addr) (tn tc : Nat) (KT : List MStep) (T : List NStep) : Prop where
  rel : RelN W bo F O V
  row : RowL W.heap.size O (.a 7 0) V 161 4 (.slice ta tn tc) KT.length (KT.flatMap MStep.enc)
  len : T.length = KT.length
  con : ∀ (i : Nat) (k : MStep) (s : NStep), KT[i]? = some k → T[i]? = some s → StC (core O V) k s
theorem PfS.fr {W : World} {bo : Nat} {O O' : Own} {V V' : World} {F : List (List NRow)} {ta : Option Addr} {tn tc : Nat} {KT : List MStep} {T : List NStep} (h : PfS W bo O V F ta tn tc KT T) (hF : Fr (fun _ => False) O V O' V') : PfS W bo O' V' F ta tn tc KT T :=
  ⟨h.rel.fr hF (fun _ e => e) (fun e => e), h.row.fr hF (fun e => e), h.len, fun i k s h1 h2 => (h.con i k s h1 h2).sub (Sub.cores fun b C hb ho => ⟨hF.blk hb (fun e => e), (hF.keep b (blk_lt hb)).trans ho⟩)⟩
theorem PfS.grow {W : World} {bo : Nat} {O : Own} {V V' : World} {F : List (List NRow)} {ta : Option Addr} {tn tc : Nat} {KT : List MStep} {T : List NStep} (h : PfS W bo O V F ta tn tc KT T) (hx : V.Extends V') : PfS W bo (lab O V.heap.size .no) V' F ta tn tc KT T := h.fr (Fr.grow hx)
/-- The lists, the steps, and what the round has found. -/
structure PfF (W : World) (bo : Nat) (O : Own) (V : World) (F : List (List NRow)) (ta : Option Addr) (tn tc : Nat) (KT : List MStep) (T : List NStep) (fa : Option Addr) (fn fc : Nat) (K : List MStep) (S : List NStep) : Prop where
  st : PfS W bo O V F ta tn tc KT T
  row : RowL W.heap.size O (.a 7 1) V 161 4 (.slice fa fn fc) K.length (K.flatMap MStep.enc)
  len : S.length = K.length
  con : ∀ (i : Nat) (k : MStep) (s : NStep), K[i]? = some k → S[i]? = some s → StC (core O V) k s
theorem PfS.merge {W : World} {bo : Nat} {O O' : Own} {V0 V : World} {F : List (List NRow)} {ta : Option Addr} {tn tc : Nat} {KT : List MStep} {T : List NStep} {fa : Option Addr} {fn fc : Nat} {K : List MStep} {S : List NStep} (h : PfS W bo O V0 F ta tn tc KT T) (hS : FdS V0 O' V fa fn fc K S) : ∃ O2, PfF W bo O2 V F ta tn tc KT T fa fn fc K S := by
  classical
  obtain ⟨O2, h1, h2, h3⟩ : ∃ O2 : Own, (∀ k, k < V0.heap.size → O2 k = O k) ∧ (∀ k, ¬ k < V0.heap.size → O' k = .a 9 3 → O2 k = .a 7 1) ∧ (∀ k, ¬ k < V0.heap.size → O' k ≠ .a 9 3 → O2 k = .no) :=
    ⟨fun k => if k < V0.heap.size then O k else if O' k = .a 9 3 then .a 7 1 else .no, fun k hk => if_pos hk, fun k hk e => by dsimp only; rw [if_neg hk, if_pos e], fun k hk e => by dsimp only; rw [if_neg hk, if_neg e]⟩
  have hF : Fr (fun _ => False) O V0 O2 V := ⟨hS.ext.os, hS.ext.tape, hS.ext.output, hS.ext.size, h1, fun k hk _ => hS.ext.block k hk⟩
  have hsub : Sub (core O' V) (core O2 V) := Sub.cores fun b C hb ho => by
    by_cases hk : b < V0.heap.size
    · rw [hS.lo b hk] at ho; cases ho
    · exact ⟨hb, h3 b hk (by rw [ho]; exact fun e => by cases e)⟩
  refine ⟨O2, h.fr hF, ⟨row_base hS.row.1 h.rel.ext.size, fun k hk => ?_⟩, hS.len, fun i k s e1 e2 => (hS.con i k s e1 e2).sub hsub⟩
  have h9 := (row_at hS.row.1 k hk).1
  exact h2 k (by omega) (hS.row.2 k hk)
theorem fdS_nil (V : World) : FdS V (fun k => if k < V.heap.size then .a 9 9 else .no) V none 0 0 [] [] :=
  ⟨ext_Ext (Ext.refl _), fun k hk => if_pos hk, RowL.nil _ _ _ _ _ _, rfl, fun i k s h => by cases h⟩
end Go.Proofs.Qxb6500787aGreat
