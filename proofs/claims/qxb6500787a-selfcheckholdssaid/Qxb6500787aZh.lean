import Derived.Test.Qxb6500787aZg
import Derived.StillTailTactics
import Derived.Deep.QuietTactic
import Derived.BigQuiet
import Derived.Deep.RegionHeld
import Derived.Deep.CutRange
import Derived.Laws.ResultCell
import Derived.Laws.Rows
import Derived.DeepKeys
import Derived.DataBytes
import Derived.Laws.StructEq
import Derived.Laws.AppendOwn
import Derived.Laws.MakeOwn
import Derived.Lib.AppendStr
set_option linter.unusedSimpArgs false
set_option linter.unusedVariables false
namespace Go.Proofs.Qxb6500787a
open Go.RowKit Go.Blk
attribute [local go_sem ↓] execOp_load execOp_store execOp_alloc
attribute [local go_sem] Try.ld26 Try.st26 Try.ld27 Try.st27 Try.ld28 Try.st28 Try.ld3 Try.st3 Try.ld29 Try.st29 Try.ld44 Try.st44 Try.ld4 Try.st4 Try.ld50 Try.st50 Try.ld32 Try.st32 Try.ld49 Try.st49 Try.ld68 Try.st68 Try.ld9 Try.st9 Try.ld40 Try.st40 Try.ld138 Try.st138 Try.ld139 Try.st139 Try.ld146 Try.st146 Try.ld183 Try.st183 Try.ld184 Try.st184 Try.ld192 Try.st192 Try.ld195 Try.st195 Try.ld217 Try.st217 Try.ld159 Try.st159 Try.ld142 Try.st142 Try.ld2 Try.st2 Try.ld5 Try.st5 Try.ld12 Try.st12 Try.ld21 Try.st21 Try.ld22 Try.st22 Try.ld24 Try.st24 Try.ld58 Try.st58 Try.ld63 Try.st63 Try.ld97 Try.st97 Try.ld101 Try.st101 Try.ld116 Try.st116 Try.ld121 Try.st121 Try.ld135 Try.st135 Try.ld136 Try.st136 Try.ld143 Try.st143 Try.ld148 Try.st148 Try.ld154 Try.st154 Try.ld173 Try.st173 Try.ld187 Try.st187 Try.ld222 Try.st222 Try.ld241 Try.st241 Try.ld248 Try.st248 Try.ld268 Try.st268 Try.ld272 Try.st272 Try.ld153 Try.st153 Try.ld255 Try.st255 Try.ld256 Try.st256 Try.ld129 Try.st129 Try.ld152 Try.st152 Try.ld31 Try.st31 Try.ld46 Try.st46 Try.ld52 Try.st52 Try.ld54 Try.st54 Try.ld60 Try.st60 Try.ld70 Try.st70 Try.ld74 Try.st74 Try.ld93 Try.st93 Try.ld119 Try.st119 Try.ld141 Try.st141 Try.ld151 Try.st151 Try.ld170 Try.st170 Try.ld186 Try.st186 Try.ld189 Try.st189 Try.ld194 Try.st194 Try.ld197 Try.st197 Try.ld219 Try.st219 Try.ld224 Try.st224 Try.ld230 Try.st230 Try.ld235 Try.st235 Try.ld243 Try.st243 Try.ld247 Try.st247 Try.ld252 Try.st252 Try.ld258 Try.st258 Try.al153 Try.al255 Try.al256 Try.al129 Try.al152 Try.al31 Try.al46 Try.al52 Try.al54 Try.al60 Try.al70 Try.al74 Try.al93 Try.al119 Try.al141 Try.al151 Try.al170 Try.al186 Try.al189 Try.al194 Try.al197 Try.al219 Try.al224 Try.al230 Try.al235 Try.al243 Try.al247 Try.al252 Try.al258
attribute [local go_sem] Request.length_enc Request.ok_enc Request.all_get Request.all_set Request.kind_get Request.kind_set Request.blob_get Request.blob_set Request.items_get Request.items_set Request.pred_get Request.pred_set Request.slots_get Request.slots_set Trace.length_enc Trace.ok_enc Trace.all_get Trace.all_set Trace.op_get Trace.op_set Trace.calls_get Trace.calls_set Item.length_enc Item.ok_enc Item.all_get Item.all_set Item.del_get Item.del_set Item.pred_get Item.pred_set Item.args_get Item.args_set Reply.length_enc Reply.ok_enc Reply.all_get Reply.all_set Reply.code_get Reply.code_set Reply.kind_get Reply.kind_set Reply.index_get Reply.index_set Reply.yes_get Reply.yes_set Reply.preds_get Reply.preds_set Reply.rules_get Reply.rules_set Reply.arity_get Reply.arity_set Reply.rows_get Reply.rows_set Reply.fact_get Reply.fact_set Reply.fact_del_get Reply.fact_del_set Reply.fact_pred_get Reply.fact_pred_set Reply.fact_args_get Reply.fact_args_set GEntry.length_enc GEntry.ok_enc GEntry.all_get GEntry.all_set GEntry.seq_get GEntry.seq_set GEntry.kind_get GEntry.kind_set GEntry.code_get GEntry.code_set GOp.length_enc GOp.ok_enc GOp.all_get GOp.all_set GOp.kind_get GOp.kind_set GOp.raw_get GOp.raw_set Reader.length_enc Reader.ok_enc Reader.all_get Reader.all_set Reader.buf_get Reader.buf_set Reader.at__get Reader.at__set Slot.length_enc Slot.ok_enc Slot.all_get Slot.all_set Slot.bound_get Slot.bound_set Slot.name_get Slot.name_set Session.length_enc Session.ok_enc Session.all_get Session.all_set Session.svc_get Session.svc_set Session.buf_get Session.buf_set Session.closed_get Session.closed_set GProgram.length_enc GProgram.ok_enc GProgram.all_get GProgram.all_set GProgram.pool_get GProgram.pool_set GProgram.preds_get GProgram.preds_set GProgram.rules_get GProgram.rules_set GProgram.strata_get GProgram.strata_set PredInfo.length_enc PredInfo.ok_enc PredInfo.all_get PredInfo.all_set PredInfo.arity_get PredInfo.arity_set PredInfo.base_get PredInfo.base_set PredInfo.stratum_get PredInfo.stratum_set Change.length_enc Change.ok_enc Change.all_get Change.all_set Change.del_get Change.del_set Change.pred_get Change.pred_set Change.t_get Change.t_set Store.length_enc Store.ok_enc Store.all_get Store.all_set Store.names_get Store.names_set Store.arity_get Store.arity_set Store.rows_get Store.rows_set Src.length_enc Src.ok_enc Src.all_get Src.all_set Src.b_get Src.b_set Src.at__get Src.at__set Atom.length_enc Atom.ok_enc Atom.all_get Atom.all_set Atom.pred_get Atom.pred_set Atom.args_get Atom.args_set GRule.length_enc GRule.ok_enc GRule.all_get GRule.all_set GRule.head_get GRule.head_set GRule.body_get GRule.body_set GRule.head_pred_get GRule.head_pred_set GRule.head_args_get GRule.head_args_set Cert.length_enc Cert.ok_enc Cert.all_get Cert.all_set Cert.names_get Cert.names_set Cert.nodes_get Cert.nodes_set Fact.length_enc Fact.ok_enc Fact.all_get Fact.all_set Fact.pred_get Fact.pred_set Fact.t_get Fact.t_set Literal.length_enc Literal.ok_enc Literal.all_get Literal.all_set Literal.neg_get Literal.neg_set Literal.atom_get Literal.atom_set Literal.atom_pred_get Literal.atom_pred_set Literal.atom_args_get Literal.atom_args_set Engine.length_enc Engine.ok_enc Engine.all_get Engine.all_set Engine.prog_get Engine.prog_set Engine.st_get Engine.st_set SrcCertm.length_enc SrcCertm.ok_enc SrcCertm.all_get SrcCertm.all_set SrcCertm.b_get SrcCertm.b_set SrcCertm.at__get SrcCertm.at__set GNode.length_enc GNode.ok_enc GNode.all_get GNode.all_set GNode.rule_get GNode.rule_set GNode.pred_get GNode.pred_set GNode.vals_get GNode.vals_set GNode.refs_get GNode.refs_set Term.length_enc Term.ok_enc Term.all_get Term.all_set Term.var_get Term.var_set Term.n_get Term.n_set Env.length_enc Env.ok_enc Env.all_get Env.all_set Env.val_get Env.val_set Env.set_get Env.set_set
attribute [local go_sem] size_put size_ext blk_put free_put blk_alloc free_alloc blk_drew free_drew blk_ext free_ext lookOr_some putOr_some segAt_some cellAt_some storeIn_some put_put put_alloc_new length_arr ok_arr_u8 ok_arr_u32 ok_arr_u64 ok_arr_i64 ok_arr_sl cellsV_agg cellsV_int cellsV_bool cellsV_string cellsV_pointer cellsV_slice cellsV_sl ok_int ok_bool ok_string ok_pointer ok_slice ok_sl toList_arr seg_arr set_arr nth_splice nth_splice0 seg_splice seg_splice0 splice_splice splice_splice0 length_splice_if
attribute [local go_sem ↓] execOp_box
attribute [local go_sem] box_run nth_arr_u8 put_arr_u8 blk_drewN free_drewN put_drewN blk_raw free_raw
def z256 : List Value := List.replicate 256 (Value.int .i64 0)
set_option maxRecDepth 100000 in
theorem Try.al137 (w : World) : (allocOp 137).run Try.prog w = .ok (.value (.pointer (some ⟨w.heap.size, 0, none⟩))) (w.alloc (.cells z256.toArray 137)) := alloc_any (v := .agg z256.toArray) (by kernel_rfl) w
/-- The recount's cells. -/
structure CU (C : List Value) (u : Nat → Int) : Prop where
  len : C.length = 256
  at_ : ∀ y, y < 256 → nth C y = some (.int .i64 (u y))
theorem CU.zero : CU z256 (fun _ => 0) := ⟨List.length_replicate .., fun y hy => by unfold nth z256; rw [List.getElem?_replicate, if_pos hy]⟩
theorem CU.set {C : List Value} {u : Nat → Int} (h : CU C u) {v : Nat} (hv : v < 256) {x : Int} {u' : Nat → Int} (h1 : u' v = x) (h2 : ∀ y, y ≠ v → u' y = u y) : CU (splice C v [.int .i64 x]) u' := by
  refine ⟨?_, fun y hy => ?_⟩
  · rw [length_splice_if, if_pos (by rw [h.len]; show v + 1 ≤ 256; omega)]; exact h.len
  · rw [splice_nth (by rw [h.len]; exact hv)]
    by_cases e : y = v
    · rw [if_pos e, e, h1]
    · rw [if_neg e, h.at_ y hy, h2 y e]
theorem CU.congr {C : List Value} {u u' : Nat → Int} (h : CU C u) (he : ∀ y, y < 256 → u y = u' y) : CU C u' := ⟨h.len, fun y hy => by rw [h.at_ y hy, he y hy]⟩
/-- What is counted before predicate p. -/
def uP (t : InsS) (p : Nat) (y : Nat) : Int := (((if y < t.p.pool.length then 1 else 0) + sumN (occF t.p (basR t.p t.R) y) p : Nat) : Int)
/-- What is counted before row i of predicate p. -/
def uI (t : InsS) (p i : Nat) (y : Nat) : Int := uP t p y + if (pI t.p p).base then (occL ((rowsAt t.R p).take i) (arP t.p p) y : Int) else 0
/-- What is counted before column c of row x of predicate p. -/
def uC (t : InsS) (p i : Nat) (x : Tup) (c : Nat) (y : Nat) : Int := uI t p i y + if (pI t.p p).base then (colN x c y : Int) else 0
theorem uP_end {t : InsS} (h : InG t) {y : Nat} (hy : y < 256) : uP t t.p.preds.length y = t.U y := by
  rw [h.cnt.us y hy]; rfl
theorem uI_zero (t : InsS) (p y : Nat) : uI t p 0 y = uP t p y := by
  unfold uI
  rw [List.take_zero]
  have e : occL [] (arP t.p p) y = 0 := rfl
  rw [e]
  split <;> simp
theorem uI_end {t : InsS} {p : Nat} (hp : p < t.p.preds.length) (y : Nat) : uI t p (rowsAt t.R p).length y = uP t (p + 1) y := by
  unfold uI uP
  rw [List.take_of_length_le (Nat.le_refl _)]
  have e : sumN (occF t.p (basR t.p t.R) y) (p + 1) = sumN (occF t.p (basR t.p t.R) y) p + occF t.p (basR t.p t.R) y p := rfl
  rw [e]
  have e2 : occF t.p (basR t.p t.R) y p = if (pI t.p p).base then occL (rowsAt t.R p) (arP t.p p) y else 0 := by
    unfold occF
    split
    · rename_i hb
      rw [rowsAt_some (basR_at t.p t.R hp), if_pos hb]
    · rfl
  rw [e2]
  obtain ⟨k, hk⟩ : ∃ k, k = (if y < t.p.pool.length then 1 else 0) := ⟨_, rfl⟩
  rw [← hk]
  by_cases hb : (pI t.p p).base = true
  · rw [if_pos hb, if_pos hb]; omega
  · rw [if_neg hb, if_neg hb]; omega
theorem uC_zero (t : InsS) (p i : Nat) (x : Tup) (y : Nat) : uC t p i x 0 y = uI t p i y := by
  unfold uC
  have e : colN x 0 y = 0 := rfl
  rw [e]
  split <;> simp
theorem uC_end {t : InsS} {p i : Nat} {x : Tup} (hx : (rowsAt t.R p)[i]? = some x) (y : Nat) : uC t p i x (arP t.p p) y = uI t p (i + 1) y := by
  unfold uC uI
  rw [take_at hx, occL_append]
  split <;> omega
theorem uC_step {t : InsS} {p i : Nat} {x : Tup} {c v : Nat} (hb : (pI t.p p).base = true) (hv : (tg x c).toNat = v) : uC t p i x (c + 1) v = uC t p i x c v + 1 ∧ ∀ y, y ≠ v → uC t p i x (c + 1) y = uC t p i x c y := by
  unfold uC
  rw [if_pos hb, if_pos hb, colN_succ, if_pos hv]
  refine ⟨by omega, fun y hy => ?_⟩
  rw [if_pos hb, if_pos hb, colN_succ, if_neg (by omega)]
  rfl
theorem uC_der {t : InsS} {p i : Nat} {x : Tup} {c : Nat} (hb : (pI t.p p).base = false) (y : Nat) : uC t p i x (c + 1) y = uC t p i x c y := by
  unfold uC
  rw [if_neg (by rw [hb]; decide), if_neg (by rw [hb]; decide)]
theorem uC_bd {t : InsS} (h : InG t) {p i : Nat} (hp : p < t.p.preds.length) {x : Tup} (hx : (rowsAt t.R p)[i]? = some x) {c : Nat} (hc : c ≤ arP t.p p) (y : Nat) : 0 ≤ uC t p i x c y ∧ uC t p i x c y ≤ 1000000 := by
  have h1 : sumN (occF t.p (basR t.p t.R) y) p ≤ sumN (occF t.p (basR t.p t.R) y) t.p.preds.length := by
    obtain ⟨k, hk⟩ : ∃ k, t.p.preds.length = p + k := ⟨t.p.preds.length - p, by omega⟩
    rw [hk]
    clear hk
    induction k with
    | zero => exact Nat.le_refl _
    | succ k ih => exact Nat.le_trans ih (by show _ ≤ sumN _ (p + k) + _; omega)
  have h2 := useN_le h.pg.pok h.cap y
  unfold useN at h2
  have h3 : occ t.p (basR t.p t.R) y = sumN (occF t.p (basR t.p t.R) y) t.p.preds.length := rfl
  have h4 := occL_le ((rowsAt t.R p).take i) (arP t.p p) y
  have h5 := (pI_ar h.pg.pok hp).2
  have h6 : (rowsAt t.R p).length ≤ 512 := by
    have hpl : p < t.R.length := by rw [h.inv.2]; exact hp
    exact cap_of h.cap _ (by unfold rowsAt; rw [List.getD_eq_getElem?_getD, List.getElem?_eq_getElem hpl]; exact List.getElem_mem hpl)
  have h7 : ((rowsAt t.R p).take i).length * arP t.p p ≤ 512 * 4 := Nat.mul_le_mul (by rw [List.length_take]; omega) h5
  have h8 := colN_le x c y
  unfold uC uI uP
  constructor
  · split <;> omega
  · split <;> omega
theorem look_pool {t : InsS} (h : InG t) {i : Nat} {nm : List UInt8} (hi : t.p.pool[i]? = some nm) : lookF t.N nm = (i : Int) := by
  obtain ⟨X, hX⟩ := h.pre
  have hN : ∀ j, j < t.p.pool.length → t.N[j]? = t.p.pool[j]? := fun j hj => by rw [← hX, List.getElem?_append_left hj]
  have hil : i < t.p.pool.length := (List.getElem?_eq_some_iff.1 hi).1
  refine lookF_at ((hN i hil).trans hi) (fun j hj x hx e => ?_)
  subst e
  have h1 := (hN i hil).trans hi
  have hjl := (List.getElem?_eq_some_iff.1 hx).1
  have hil' := (List.getElem?_eq_some_iff.1 h1).1
  have e1 := (List.getElem?_eq_some_iff.1 hx).2
  have e2 := (List.getElem?_eq_some_iff.1 h1).2
  exact List.pairwise_iff_getElem.1 h.nn.1 j i hjl hil' hj (e1.trans e2.symm)
theorem livN_syms {t : InsS} (h : InG t) : livN t.U ≤ t.N.length := by
  have h1 : ∀ n, n ≤ 256 → cntB (fun y => decide (0 < t.U y)) n ≤ min n t.N.length := by
    intro n
    induction n with
    | zero => intro _; exact Nat.zero_le _
    | succ n ih =>
      intro hn
      have ih' := ih (by omega)
      show cntB _ n + _ ≤ _
      by_cases e : n < t.N.length
      · split <;> omega
      · have hz : ¬ 0 < t.U n := by
          rw [h.cnt.us n (by omega)]
          have h2 : useN t.p (basR t.p t.R) n = 0 := by
            unfold useN
            have h3 := h.pre.length_le
            rw [if_neg (by omega)]
            have h4 : ¬ 0 < occ t.p (basR t.p t.R) n := fun hp => by
              obtain ⟨q, -, -, x, hx, c, hc, hv⟩ := occ_pos.1 hp
              have := ((h.dom q x hx).1 c hc).2
              omega
            omega
          rw [h2]; decide
        rw [if_neg (by simpa using hz)]
        omega
  have := h1 256 (Nat.le_refl _)
  unfold livN
  omega
end Go.Proofs.Qxb6500787a
