import Derived.Test.Qxb6500787aVd
import Derived.StillTailTactics
import Derived.Deep.QuietTactic
import Derived.BigQuiet
import Derived.Deep.RegionHeld
import Derived.Deep.CutRange
import Derived.Laws.ResultCell
import Derived.Laws.Rows
import Derived.DeepKeys
import Derived.DataBytes
import Derived.Laws.StructEq
import Derived.Laws.AppendOwn
import Derived.Laws.MakeOwn
import Derived.Lib.AppendStr
set_option linter.unusedSimpArgs false
set_option linter.unusedVariables false
namespace Go.Proofs.Qxb6500787a
open Go.RowKit Go.Blk
attribute [local go_sem ↓] execOp_load execOp_store execOp_alloc
attribute [local go_sem] Try.ld26 Try.st26 Try.ld27 Try.st27 Try.ld28 Try.st28 Try.ld3 Try.st3 Try.ld29 Try.st29 Try.ld44 Try.st44 Try.ld4 Try.st4 Try.ld50 Try.st50 Try.ld32 Try.st32 Try.ld49 Try.st49 Try.ld68 Try.st68 Try.ld9 Try.st9 Try.ld40 Try.st40 Try.ld138 Try.st138 Try.ld139 Try.st139 Try.ld146 Try.st146 Try.ld183 Try.st183 Try.ld184 Try.st184 Try.ld192 Try.st192 Try.ld195 Try.st195 Try.ld217 Try.st217 Try.ld159 Try.st159 Try.ld142 Try.st142 Try.ld2 Try.st2 Try.ld5 Try.st5 Try.ld12 Try.st12 Try.ld21 Try.st21 Try.ld22 Try.st22 Try.ld24 Try.st24 Try.ld58 Try.st58 Try.ld63 Try.st63 Try.ld97 Try.st97 Try.ld101 Try.st101 Try.ld116 Try.st116 Try.ld121 Try.st121 Try.ld135 Try.st135 Try.ld136 Try.st136 Try.ld143 Try.st143 Try.ld148 Try.st148 Try.ld154 Try.st154 Try.ld173 Try.st173 Try.ld187 Try.st187 Try.ld222 Try.st222 Try.ld241 Try.st241 Try.ld248 Try.st248 Try.ld268 Try.st268 Try.ld272 Try.st272 Try.ld153 Try.st153 Try.ld255 Try.st255 Try.ld256 Try.st256 Try.ld129 Try.st129 Try.ld152 Try.st152 Try.ld31 Try.st31 Try.ld46 Try.st46 Try.ld52 Try.st52 Try.ld54 Try.st54 Try.ld60 Try.st60 Try.ld70 Try.st70 Try.ld74 Try.st74 Try.ld93 Try.st93 Try.ld119 Try.st119 Try.ld141 Try.st141 Try.ld151 Try.st151 Try.ld170 Try.st170 Try.ld186 Try.st186 Try.ld189 Try.st189 Try.ld194 Try.st194 Try.ld197 Try.st197 Try.ld219 Try.st219 Try.ld224 Try.st224 Try.ld230 Try.st230 Try.ld235 Try.st235 Try.ld243 Try.st243 Try.ld247 Try.st247 Try.ld252 Try.st252 Try.ld258 Try.st258 Try.al153 Try.al255 Try.al256 Try.al129 Try.al152 Try.al31 Try.al46 Try.al52 Try.al54 Try.al60 Try.al70 Try.al74 Try.al93 Try.al119 Try.al141 Try.al151 Try.al170 Try.al186 Try.al189 Try.al194 Try.al197 Try.al219 Try.al224 Try.al230 Try.al235 Try.al243 Try.al247 Try.al252 Try.al258
attribute [local go_sem] Request.length_enc Request.ok_enc Request.all_get Request.all_set Request.kind_get Request.kind_set Request.blob_get Request.blob_set Request.items_get Request.items_set Request.pred_get Request.pred_set Request.slots_get Request.slots_set Trace.length_enc Trace.ok_enc Trace.all_get Trace.all_set Trace.op_get Trace.op_set Trace.calls_get Trace.calls_set Item.length_enc Item.ok_enc Item.all_get Item.all_set Item.del_get Item.del_set Item.pred_get Item.pred_set Item.args_get Item.args_set Reply.length_enc Reply.ok_enc Reply.all_get Reply.all_set Reply.code_get Reply.code_set Reply.kind_get Reply.kind_set Reply.index_get Reply.index_set Reply.yes_get Reply.yes_set Reply.preds_get Reply.preds_set Reply.rules_get Reply.rules_set Reply.arity_get Reply.arity_set Reply.rows_get Reply.rows_set Reply.fact_get Reply.fact_set Reply.fact_del_get Reply.fact_del_set Reply.fact_pred_get Reply.fact_pred_set Reply.fact_args_get Reply.fact_args_set GEntry.length_enc GEntry.ok_enc GEntry.all_get GEntry.all_set GEntry.seq_get GEntry.seq_set GEntry.kind_get GEntry.kind_set GEntry.code_get GEntry.code_set GOp.length_enc GOp.ok_enc GOp.all_get GOp.all_set GOp.kind_get GOp.kind_set GOp.raw_get GOp.raw_set Reader.length_enc Reader.ok_enc Reader.all_get Reader.all_set Reader.buf_get Reader.buf_set Reader.at__get Reader.at__set Slot.length_enc Slot.ok_enc Slot.all_get Slot.all_set Slot.bound_get Slot.bound_set Slot.name_get Slot.name_set Session.length_enc Session.ok_enc Session.all_get Session.all_set Session.svc_get Session.svc_set Session.buf_get Session.buf_set Session.closed_get Session.closed_set GProgram.length_enc GProgram.ok_enc GProgram.all_get GProgram.all_set GProgram.pool_get GProgram.pool_set GProgram.preds_get GProgram.preds_set GProgram.rules_get GProgram.rules_set GProgram.strata_get GProgram.strata_set PredInfo.length_enc PredInfo.ok_enc PredInfo.all_get PredInfo.all_set PredInfo.arity_get PredInfo.arity_set PredInfo.base_get PredInfo.base_set PredInfo.stratum_get PredInfo.stratum_set Change.length_enc Change.ok_enc Change.all_get Change.all_set Change.del_get Change.del_set Change.pred_get Change.pred_set Change.t_get Change.t_set Store.length_enc Store.ok_enc Store.all_get Store.all_set Store.names_get Store.names_set Store.arity_get Store.arity_set Store.rows_get Store.rows_set Src.length_enc Src.ok_enc Src.all_get Src.all_set Src.b_get Src.b_set Src.at__get Src.at__set Atom.length_enc Atom.ok_enc Atom.all_get Atom.all_set Atom.pred_get Atom.pred_set Atom.args_get Atom.args_set GRule.length_enc GRule.ok_enc GRule.all_get GRule.all_set GRule.head_get GRule.head_set GRule.body_get GRule.body_set GRule.head_pred_get GRule.head_pred_set GRule.head_args_get GRule.head_args_set Cert.length_enc Cert.ok_enc Cert.all_get Cert.all_set Cert.names_get Cert.names_set Cert.nodes_get Cert.nodes_set Fact.length_enc Fact.ok_enc Fact.all_get Fact.all_set Fact.pred_get Fact.pred_set Fact.t_get Fact.t_set Literal.length_enc Literal.ok_enc Literal.all_get Literal.all_set Literal.neg_get Literal.neg_set Literal.atom_get Literal.atom_set Literal.atom_pred_get Literal.atom_pred_set Literal.atom_args_get Literal.atom_args_set Engine.length_enc Engine.ok_enc Engine.all_get Engine.all_set Engine.prog_get Engine.prog_set Engine.st_get Engine.st_set SrcCertm.length_enc SrcCertm.ok_enc SrcCertm.all_get SrcCertm.all_set SrcCertm.b_get SrcCertm.b_set SrcCertm.at__get SrcCertm.at__set GNode.length_enc GNode.ok_enc GNode.all_get GNode.all_set GNode.rule_get GNode.rule_set GNode.pred_get GNode.pred_set GNode.vals_get GNode.vals_set GNode.refs_get GNode.refs_set Term.length_enc Term.ok_enc Term.all_get Term.all_set Term.var_get Term.var_set Term.n_get Term.n_set Env.length_enc Env.ok_enc Env.all_get Env.all_set Env.val_get Env.val_set Env.set_get Env.set_set
attribute [local go_sem] size_put size_ext blk_put free_put blk_alloc free_alloc blk_drew free_drew blk_ext free_ext lookOr_some putOr_some segAt_some cellAt_some storeIn_some put_put put_alloc_new length_arr ok_arr_u8 ok_arr_u32 ok_arr_u64 ok_arr_i64 ok_arr_sl cellsV_agg cellsV_int cellsV_bool cellsV_string cellsV_pointer cellsV_slice cellsV_sl ok_int ok_bool ok_string ok_pointer ok_slice ok_sl toList_arr seg_arr set_arr nth_splice nth_splice0 seg_splice seg_splice0 splice_splice splice_splice0 length_splice_if
attribute [local go_sem ↓] execOp_box
attribute [local go_sem] box_run nth_arr_u8 put_arr_u8 blk_drewN free_drewN put_drewN blk_raw free_raw
/-- The cells of a new service. -/
def newE : List Value := .pointer none :: .slice none 0 0 :: List.replicate 251 (.int .i64 0)
theorem newE_len : newE.length = 253 := by
  unfold newE
  rw [List.length_cons, List.length_cons, List.length_replicate]
set_option maxRecDepth 100000 in
theorem build110z (w : World) : (buildOp 110 #[]).run Try.prog w = .ok (.value (.agg newE.toArray)) w := by kernel_rfl
def Sv.zero : Sv := ⟨none, [], 0, 0, fun _ => 0⟩
theorem newE_at {k : Nat} (h2 : 2 ≤ k) (hk : k < 253) : nth newE k = some (.int .i64 0) := by
  unfold newE nth
  match k, h2 with
  | k + 2, _ =>
    rw [List.getElem?_cons_succ, List.getElem?_cons_succ, List.getElem?_replicate, if_pos (by omega)]
theorem newE_c : SvC newE Sv.zero none none 0 0 := ⟨newE_len, rfl, rfl, newE_at (by omega) (by omega), newE_at (by omega) (by omega), fun k h1 h2 => newE_at (by omega) h2⟩
attribute [local go_sem ↓] execOp_build
attribute [local go_sem] build110z
set_option maxRecDepth 20000 in
theorem new_any (W : World) : Calls Try.prog 19 #[] W fun e V => e = .returned (.pointer (some ⟨W.heap.size, 0, none⟩)) ∧ V = W.alloc (.cells newE.toArray 110) := by
  obtain ⟨Q, hQ⟩ : ∃ Q : Ending → World → Prop, Q = fun e V => e = .returned (.pointer (some ⟨W.heap.size, 0, none⟩)) ∧ V = W.alloc (.cells newE.toArray 110) := ⟨_, rfl⟩
  rw [← hQ]
  have HP : Hid (Q (.returned (.pointer (some ⟨W.heap.size, 0, none⟩))) (W.alloc (.cells newE.toArray 110))) := by
    show Q _ _
    rw [hQ]; exact ⟨rfl, rfl⟩
  clear hQ
  go_enter Try.func19, Try.ntmps19
  go_wp2_with fail
  try go_ret
  exact HP.out
/-- A new service in memory. -/
theorem new_at (O : Own) {W : World} (g : Nat) (hg : g < 2) : SvAt (lab O W.heap.size (.a 0 0)) (W.alloc (.cells newE.toArray 110)) W.heap.size g Sv.zero := ⟨newE, none, none, 0, 0, by rw [blk_alloc, if_pos rfl], by rw [free_alloc, if_pos rfl], lab_ge (Nat.le_refl _), newE_c, ⟨rfl, fun h => absurd rfl h, .inl rfl⟩, hg, fun _ => ⟨rfl, rfl, rfl⟩, fun t h => by cases h⟩
set_option maxRecDepth 20000 in
theorem loaded_any {O : Own} {W : World} {bs g : Nat} {s : Sv} (h : SvAt O W bs g s) : Calls Try.prog 20 #[.pointer (some ⟨bs, 0, none⟩)] W fun e V => e = .returned (.bool s.inst.isSome) ∧ V = W := by
  obtain ⟨Q, hQ⟩ : ∃ Q : Ending → World → Prop, Q = fun e V => e = .returned (.bool s.inst.isSome) ∧ V = W := ⟨_, rfl⟩
  rw [← hQ]
  have HQ := hid_of hQ
  obtain ⟨CS, ip, ia, iN, ic, h⟩ := h
  have hb := h.cell
  have c0 := h.c.c0
  have l0 : 0 < CS.length := by rw [h.c.len]; omega
  have HP : Hid (∀ v, s.inst.isSome = v → Q (.returned (.bool v)) W) := fun v e => by rw [HQ.out, e]; exact ⟨rfl, rfl⟩
  cases hi : s.inst with
  | none =>
    obtain ⟨rfl, -, -⟩ := h.no hi
    have HP2 := hid_of (HP.out false (by rw [hi]; rfl))
    clear hQ h HP HQ hi
    go_enter Try.func20, Try.ntmps20
    go_wp2_with fail
    try go_ret
    exact HP2.out
  | some t =>
    obtain ⟨B, bi, rfl, -, -⟩ := h.ins t hi
    have HP2 := hid_of (HP.out true (by rw [hi]; rfl))
    clear hQ h HP HQ hi
    go_enter Try.func20, Try.ntmps20
    go_wp2_with fail
    try go_ret
    exact HP2.out
set_option maxRecDepth 20000 in
theorem lastTrace_any {O : Own} {W : World} {bs g : Nat} {s : Sv} (h : SvAt O W bs g s) : Calls Try.prog 22 #[.pointer (some ⟨bs, 0, none⟩)] W fun e V => e = .returned (.agg (Trace.enc ⟨s.op, s.calls⟩).toArray) ∧ W.Extends V := by
  obtain ⟨Q, hQ⟩ : ∃ Q : Ending → World → Prop, Q = fun e V => e = .returned (.agg (Trace.enc ⟨s.op, s.calls⟩).toArray) ∧ W.Extends V := ⟨_, rfl⟩
  rw [← hQ]
  have HQ := hid_of hQ
  obtain ⟨CS, ip, ia, iN, ic, h⟩ := h
  have hb := h.cell
  have hlt := blk_lt hb
  have nb : ¬ bs = W.heap.size := by omega
  obtain ⟨TE, hTE⟩ : ∃ TE, TE = Trace.enc ⟨s.op, s.calls⟩ := ⟨_, rfl⟩
  have hsg : seg CS 2 2 = TE := by
    rw [hTE]
    apply List.ext_getElem?
    intro k
    have c2 := h.c.c2
    have c3 := h.c.c3
    unfold nth at c2 c3
    unfold seg
    rw [List.getElem?_take, List.getElem?_drop]
    match k with
    | 0 => rw [if_pos (by omega)]; exact c2
    | 1 => rw [if_pos (by omega)]; exact c3
    | k + 2 => rw [if_neg (by omega)]; rfl
  have l22 : 2 + 2 ≤ CS.length := by rw [h.c.len]; omega
  have tl : TE.length = 2 := by rw [hTE]; exact Trace.length_enc _
  have to' : okCells 2 TE = true := by rw [hTE]; exact Trace.ok_enc _
  have ts : splice Trace.zero.enc 0 TE = TE := by rw [hTE]; exact Trace.all_set _ _
  have HP : Hid (∀ C, Q (.returned (.agg TE.toArray)) (put (W.alloc (.cells C 46)) W.heap.size TE)) := fun C => by
    rw [HQ.out, hTE]
    exact ⟨rfl, extends_put (extends_alloc (ext_Ext (Ext.refl _)) _) (Nat.le_refl _) _⟩
  clear hQ h hTE HQ hlt
  go_enter Try.func22, Try.ntmps22
  go_wp2_with fail
  first
    | (refine ret_cell (C := TE) rfl rfl ?_ (by kernel_rfl) (by rw [tl]; kernel_rfl) rfl (HP.out _)
       rw [blk_put, if_pos rfl, blk_alloc, if_pos rfl]; rfl)
    | (have HP2 : Hid (Q (.returned (.agg TE.toArray)) (W.alloc (.cells TE.toArray 46))) := by
         show Q _ _
         have h9 := HP.out #[]
         rw [put_alloc_new] at h9
         exact h9
       refine ret_cell (C := TE) rfl rfl ?_ (by kernel_rfl) (by rw [tl]; kernel_rfl) rfl HP2.out
       rw [blk_alloc, if_pos rfl])
end Go.Proofs.Qxb6500787a
