
import Derived.Test.Qxb6500787aGreatVb
import Derived.StillTailTactics
import Derived.Deep.QuietTactic
import Derived.BigQuiet
import Derived.Deep.RegionHeld
import Derived.Deep.CutRange
import Derived.Laws.ResultCell
import Derived.Laws.Rows
import Derived.DeepKeys
import Derived.DataBytes
import Derived.Laws.StructEq
import Derived.Laws.AppendOwn
import Derived.Laws.MakeOwn
import Derived.Lib.AppendStr
set_option linter.unusedSimpArgs false
set_option linter.unusedVariables false
namespace Go.Proofs.Qxb6500787aGreat
open Go.RowKit Go.Blk
attribute [local go_sem ↓] execOp_load execOp_store execOp_alloc
attribute [local go_sem] Tryz.ld26 Tryz.st26 Tryz.ld27 Tryz.st27 Tryz.ld28 Tryz.st28 Tryz.ld3 Tryz.st3 Tryz.ld29 Tryz.st29 Tryz.ld44 Tryz.st44 Tryz.ld4 Tryz.st4 Tryz.ld50 Tryz.st50 Tryz.ld32 Tryz.st32 Tryz.ld49 Tryz.st49 Tryz.ld68 Tryz.st68 Tryz.ld9 Tryz.st9 Tryz.ld40 Tryz.st40 Tryz.ld138 Tryz.st138 Tryz.ld139 Tryz.st139 Tryz.ld146 Tryz.st146 Tryz.ld183 Tryz.st183 Tryz.ld184 Tryz.st184 Tryz.ld192 Tryz.st192 Tryz.ld195 Tryz.st195 Tryz.ld217 Tryz.st217 Tryz.ld159 Tryz.st159 Tryz.ld142 Tryz.st142 Tryz.ld2 Tryz.st2 Tryz.ld5 Tryz.st5 Tryz.ld12 Tryz.st12 Tryz.ld21 Tryz.st21 Tryz.ld22 Tryz.st22 Tryz.ld24 Tryz.st24 Tryz.ld58 Tryz.st58 Tryz.ld97 Tryz.st97 Tryz.ld101 Tryz.st101 Tryz.ld116 Tryz.st116 Tryz.ld121 Tryz.st121 Tryz.ld135 Tryz.st135 Tryz.ld136 Tryz.st136 Tryz.ld143 Tryz.st143 Tryz.ld148 Tryz.st148 Tryz.ld154 Tryz.st154 Tryz.ld173 Tryz.st173 Tryz.ld187 Tryz.st187 Tryz.ld222 Tryz.st222 Tryz.ld241 Tryz.st241 Tryz.ld248 Tryz.st248 Tryz.ld268 Tryz.st268 Tryz.ld272 Tryz.st272 Tryz.ld153 Tryz.st153 Tryz.ld255 Tryz.st255 Tryz.ld256 Tryz.st256 Tryz.ld129 Tryz.st129 Tryz.ld152 Tryz.st152 Tryz.ld31 Tryz.st31 Tryz.ld46 Tryz.st46 Tryz.ld52 Tryz.st52 Tryz.ld54 Tryz.st54 Tryz.ld60 Tryz.st60 Tryz.ld70 Tryz.st70 Tryz.ld74 Tryz.st74 Tryz.ld93 Tryz.st93 Tryz.ld141 Tryz.st141 Tryz.ld151 Tryz.st151 Tryz.ld170 Tryz.st170 Tryz.ld186 Tryz.st186 Tryz.ld189 Tryz.st189 Tryz.ld194 Tryz.st194 Tryz.ld197 Tryz.st197 Tryz.ld219 Tryz.st219 Tryz.ld224 Tryz.st224 Tryz.ld230 Tryz.st230 Tryz.ld235 Tryz.st235 Tryz.ld243 Tryz.st243 Tryz.ld247 Tryz.st247 Tryz.ld252 Tryz.st252 Tryz.ld258 Tryz.st258 Tryz.al153 Tryz.al255 Tryz.al256 Tryz.al129 Tryz.al152 Tryz.al31 Tryz.al46 Tryz.al52 Tryz.al54 Tryz.al60 Tryz.al70 Tryz.al74 Tryz.al93 Tryz.al141 Tryz.al151 Tryz.al170 Tryz.al186 Tryz.al189 Tryz.al194 Tryz.al197 Tryz.al219 Tryz.al224 Tryz.al230 Tryz.al235 Tryz.al243 Tryz.al247 Tryz.al252 Tryz.al258
attribute [local go_sem] Request.length_enc Request.ok_enc Request.all_get Request.all_set Request.kind_get Request.kind_set Request.blob_get Request.blob_set Request.items_get Request.items_set Request.pred_get Request.pred_set Request.slots_get Request.slots_set Trace.length_enc Trace.ok_enc Trace.all_get Trace.all_set Trace.op_get Trace.op_set Trace.calls_get Trace.calls_set Item.length_enc Item.ok_enc Item.all_get Item.all_set Item.del_get Item.del_set Item.pred_get Item.pred_set Item.args_get Item.args_set Reply.length_enc Reply.ok_enc Reply.all_get Reply.all_set Reply.code_get Reply.code_set Reply.kind_get Reply.kind_set Reply.index_get Reply.index_set Reply.yes_get Reply.yes_set Reply.preds_get Reply.preds_set Reply.rules_get Reply.rules_set Reply.arity_get Reply.arity_set Reply.rows_get Reply.rows_set Reply.fact_get Reply.fact_set Reply.fact_del_get Reply.fact_del_set Reply.fact_pred_get Reply.fact_pred_set Reply.fact_args_get Reply.fact_args_set GEntry.length_enc GEntry.ok_enc GEntry.all_get GEntry.all_set GEntry.seq_get GEntry.seq_set GEntry.kind_get GEntry.kind_set GEntry.code_get GEntry.code_set GOp.length_enc GOp.ok_enc GOp.all_get GOp.all_set GOp.kind_get GOp.kind_set GOp.raw_get GOp.raw_set Reader.length_enc Reader.ok_enc Reader.all_get Reader.all_set Reader.buf_get Reader.buf_set Reader.at__get Reader.at__set Slot.length_enc Slot.ok_enc Slot.all_get Slot.all_set Slot.bound_get Slot.bound_set Slot.name_get Slot.name_set Session.length_enc Session.ok_enc Session.all_get Session.all_set Session.svc_get Session.svc_set Session.buf_get Session.buf_set Session.closed_get Session.closed_set GProgram.length_enc GProgram.ok_enc GProgram.all_get GProgram.all_set GProgram.pool_get GProgram.pool_set GProgram.preds_get GProgram.preds_set GProgram.rules_get GProgram.rules_set GProgram.strata_get GProgram.strata_set PredInfo.length_enc PredInfo.ok_enc PredInfo.all_get PredInfo.all_set PredInfo.arity_get PredInfo.arity_set PredInfo.base_get PredInfo.base_set PredInfo.stratum_get PredInfo.stratum_set Change.length_enc Change.ok_enc Change.all_get Change.all_set Change.del_get Change.del_set Change.pred_get Change.pred_set Change.t_get Change.t_set Store.length_enc Store.ok_enc Store.all_get Store.all_set Store.names_get Store.names_set Store.arity_get Store.arity_set Store.rows_get Store.rows_set Src.length_enc Src.ok_enc Src.all_get Src.all_set Src.b_get Src.b_set Src.at__get Src.at__set Atom.length_enc Atom.ok_enc Atom.all_get Atom.all_set Atom.pred_get Atom.pred_set Atom.args_get Atom.args_set GRule.length_enc GRule.ok_enc GRule.all_get GRule.all_set GRule.head_get GRule.head_set GRule.body_get GRule.body_set GRule.head_pred_get GRule.head_pred_set GRule.head_args_get GRule.head_args_set Cert.length_enc Cert.ok_enc Cert.all_get Cert.all_set Cert.names_get Cert.names_set Cert.nodes_get Cert.nodes_set Fact.length_enc Fact.ok_enc Fact.all_get Fact.all_set Fact.pred_get Fact.pred_set Fact.t_get Fact.t_set Literal.length_enc Literal.ok_enc Literal.all_get Literal.all_set Literal.neg_get Literal.neg_set Literal.atom_get Literal.atom_set Literal.atom_pred_get Literal.atom_pred_set Literal.atom_args_get Literal.atom_args_set Engine.length_enc Engine.ok_enc Engine.all_get Engine.all_set Engine.prog_get Engine.prog_set Engine.st_get Engine.st_set SrcCertm.length_enc SrcCertm.ok_enc SrcCertm.all_get SrcCertm.all_set SrcCertm.b_get SrcCertm.b_set SrcCertm.at__get SrcCertm.at__set GNode.length_enc GNode.ok_enc GNode.all_get GNode.all_set GNode.rule_get GNode.rule_set GNode.pred_get GNode.pred_set GNode.vals_get GNode.vals_set GNode.refs_get GNode.refs_set Term.length_enc Term.ok_enc Term.all_get Term.all_set Term.var_get Term.var_set Term.n_get Term.n_set Env.length_enc Env.ok_enc Env.all_get Env.all_set Env.val_get Env.val_set Env.set_get Env.set_set
attribute [local go_sem] size_put size_ext blk_put free_put blk_alloc free_alloc blk_drew free_drew blk_ext free_ext lookOr_some putOr_some segAt_some cellAt_some storeIn_some put_put put_alloc_new length_arr ok_arr_u8 ok_arr_u32 ok_arr_u64 ok_arr_i64 ok_arr_sl cellsV_agg cellsV_int cellsV_bool cellsV_string cellsV_pointer cellsV_slice cellsV_sl ok_int ok_bool ok_string ok_pointer ok_slice ok_sl toList_arr seg_arr set_arr nth_splice nth_splice0 seg_splice seg_splice0 splice_splice splice_splice0 length_splice_if
attribute [local go_sem ↓] execOp_box
attribute [local go_sem] box_run nth_arr_u8 put_arr_u8 blk_drewN free_drewN put_drewN blk_raw free_raw
theorem demA_le (N : List (List UInt8)) (U : Nat → Int) (X : List (List UInt8) × Nat) (nm : List UInt8) {m : Nat} (h : X.1.length ≤ m ∧ X.2 ≤ m) : (demA N U X nm).1.length ≤ m + 1 ∧ (demA N U X nm).2 ≤ m + 1 := by
  unfold demA
  split
  · omega
  · refine ⟨by rw [List.length_append, List.length_singleton]; omega, ?_⟩
    dsimp only
    split <;> omega
theorem demAs_le (N : List (List UInt8)) (U : Nat → Int) : ∀ (l : List (List UInt8)) (X : List (List UInt8) × Nat) {m : Nat}, X.1.length ≤ m ∧ X.2 ≤ m → (l.foldl (demA N U) X).1.length ≤ m + l.length ∧ (l.foldl (demA N U) X).2 ≤ m + l.length
  | [], X, m, h => h
  | nm :: l, X, m, h => by
    have h1 := demAs_le N U l (demA N U X nm) (demA_le N U X nm h)
    rw [List.length_cons]
    show ((l.foldl (demA N U) (demA N U X nm)).1.length ≤ _) ∧ _
    refine ⟨by omega, ?_⟩
    show (l.foldl (demA N U) (demA N U X nm)).2 ≤ _
    omega
theorem demIs_le (N : List (List UInt8)) (U : Nat → Int) : ∀ (L : List It) (X : List (List UInt8) × Nat) {m : Nat}, (∀ it ∈ L, it.2.2.length ≤ 4) → X.1.length ≤ m ∧ X.2 ≤ m → (L.foldl (demI N U) X).1.length ≤ m + 4 * L.length ∧ (L.foldl (demI N U) X).2 ≤ m + 4 * L.length
  | [], X, m, _, h => h
  | it :: L, X, m, h4, h => by
    have hi : (demI N U X it).1.length ≤ m + 4 ∧ (demI N U X it).2 ≤ m + 4 := by
      unfold demI
      split
      · omega
      · have h1 := demAs_le N U it.2.2 X h
        have h2 := h4 it (List.mem_cons_self)
        omega
    have h1 := demIs_le N U L (demI N U X it) (fun x hx => h4 x (List.mem_cons_of_mem _ hx)) hi
    rw [List.length_cons]
    refine ⟨?_, ?_⟩
    · show (L.foldl (demI N U) (demI N U X it)).1.length ≤ _
      omega
    · show (L.foldl (demI N U) (demI N U X it)).2 ≤ _
      omega
theorem demF_le (N : List (List UInt8)) (U : Nat → Int) (L : List It) (h4 : ∀ it ∈ L, it.2.2.length ≤ 4) : (demF N U L).1.length ≤ 4 * L.length ∧ (demF N U L).2 ≤ 4 * L.length := by
  have := demIs_le N U L ([], 0) (m := 0) h4 ⟨Nat.le_refl _, Nat.le_refl _⟩
  simpa [demF] using this
/-- Making room, plainly. -/
def MrR (s : InsS) (L : List It) (code : Int) (s' : InsS) (co : Int) : Prop :=
  (256 < s.live + ((demF s.N s.U L).1.length : Int) ∧ code = 16 ∧ s' = s ∧ co = 0) ∨
  (¬ 256 < s.live + ((demF s.N s.U L).1.length : Int) ∧ s.N.length + (demF s.N s.U L).2 ≤ 256 ∧ code = 0 ∧ s' = s ∧ co = 0) ∨
  (¬ 256 < s.live + ((demF s.N s.U L).1.length : Int) ∧ ¬ s.N.length + (demF s.N s.U L).2 ≤ 256 ∧ ∃ cc s1, ColR s cc s1 ∧ ((cc ≠ 0 ∧ code = 17 ∧ s' = s ∧ co = 0) ∨ (cc = 0 ∧ code = 0 ∧ s' = s1 ∧ co = 1)))
def upR (f : Nat → Int) (k : Nat) (v : Int) : Nat → Int := fun j => if j = k then v else f j
/-- The service after making room. -/
def MrPost (O : Own) (W : World) (bs : Nat) (s : Sv) (t : InsS) (L : List It) (e : Ending) (V : World) : Prop := ∃ code t' co O' g', e = .returned (.int .i64 code) ∧ MrR t L code t' co ∧ Kp O W O' V ∧ SvAt O' V bs g' ⟨some t', s.img, s.op, s.calls, upR s.rst 252 (s.rst 252 + co)⟩ ∧ (∀ k, ¬ isI (1 - g') (O' k) ∧ O' k ≠ .a 0 8)
theorem SvM.ext {O : Own} {W V : World} {bs g : Nat} {s : Sv} {CS : List Value} {ip ia : Option Addr} {iN ic : Nat} (h : SvM O W bs g s CS ip ia iN ic) (hx : W.Extends V) : SvM (lab O W.heap.size .no) V bs g s CS ip ia iN ic := by
  have hF : Fr (fun _ => False) O W (lab O W.heap.size .no) V := Fr.grow hx
  refine ⟨hF.blk h.cell (fun e => e), hF.free h.cell h.fre (fun e => e), (hF.keep bs (blk_lt h.cell)).trans h.own, h.c, ?_, h.gl, h.no, fun t ht => ?_⟩
  · exact Bs.grow h.im (core_fr hF (fun e => e))
  · obtain ⟨B, bi, e1, e2, e3⟩ := h.ins t ht
    exact ⟨B, bi, e1, Nat.le_trans e2 hx.size, e3.new hx⟩
theorem lab_free {g : Nat} {O : Own} {n : Nat} (h : ∀ k, ¬ isI g (O k) ∧ O k ≠ .a 0 8) : ∀ k, ¬ isI g (lab O n .no k) ∧ lab O n .no k ≠ .a 0 8 := fun k => by
  unfold lab
  split
  · exact h k
  · exact ⟨isI_no g, fun e => by cases e⟩
theorem upR_same (f : Nat → Int) (k : Nat) : upR f k (f k + 0) = f := by
  funext j
  unfold upR
  split
  · rename_i e; rw [e]; omega
  · rfl
end Go.Proofs.Qxb6500787aGreat
