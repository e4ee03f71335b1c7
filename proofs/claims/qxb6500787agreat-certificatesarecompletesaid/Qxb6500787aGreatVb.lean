
import Derived.Test.Qxb6500787aGreatVa
import Derived.StillTailTactics
import Derived.Deep.QuietTactic
import Derived.BigQuiet
import Derived.Deep.RegionHeld
import Derived.Deep.CutRange
import Derived.Laws.ResultCell
import Derived.Laws.Rows
import Derived.DeepKeys
import Derived.DataBytes
import Derived.Laws.StructEq
import Derived.Laws.AppendOwn
import Derived.Laws.MakeOwn
import Derived.Lib.AppendStr
set_option linter.unusedSimpArgs false
set_option linter.unusedVariables false
namespace Go.Proofs.Qxb6500787aGreat
open Go.RowKit Go.Blk
attribute [local go_sem ↓] execOp_load execOp_store execOp_alloc
attribute [local go_sem] Tryz.ld26 Tryz.st26 Tryz.ld27 Tryz.st27 Tryz.ld28 Tryz.st28 Tryz.ld3 Tryz.st3 Tryz.ld29 Tryz.st29 Tryz.ld44 Tryz.st44 Tryz.ld4 Tryz.st4 Tryz.ld50 Tryz.st50 Tryz.ld32 Tryz.st32 Tryz.ld49 Tryz.st49 Tryz.ld68 Tryz.st68 Tryz.ld9 Tryz.st9 Tryz.ld40 Tryz.st40 Tryz.ld138 Tryz.st138 Tryz.ld139 Tryz.st139 Tryz.ld146 Tryz.st146 Tryz.ld183 Tryz.st183 Tryz.ld184 Tryz.st184 Tryz.ld192 Tryz.st192 Tryz.ld195 Tryz.st195 Tryz.ld217 Tryz.st217 Tryz.ld159 Tryz.st159 Tryz.ld142 Tryz.st142 Tryz.ld2 Tryz.st2 Tryz.ld5 Tryz.st5 Tryz.ld12 Tryz.st12 Tryz.ld21 Tryz.st21 Tryz.ld22 Tryz.st22 Tryz.ld24 Tryz.st24 Tryz.ld58 Tryz.st58 Tryz.ld97 Tryz.st97 Tryz.ld101 Tryz.st101 Tryz.ld116 Tryz.st116 Tryz.ld121 Tryz.st121 Tryz.ld135 Tryz.st135 Tryz.ld136 Tryz.st136 Tryz.ld143 Tryz.st143 Tryz.ld148 Tryz.st148 Tryz.ld154 Tryz.st154 Tryz.ld173 Tryz.st173 Tryz.ld187 Tryz.st187 Tryz.ld222 Tryz.st222 Tryz.ld241 Tryz.st241 Tryz.ld248 Tryz.st248 Tryz.ld268 Tryz.st268 Tryz.ld272 Tryz.st272 Tryz.ld153 Tryz.st153 Tryz.ld255 Tryz.st255 Tryz.ld256 Tryz.st256 Tryz.ld129 Tryz.st129 Tryz.ld152 Tryz.st152 Tryz.ld31 Tryz.st31 Tryz.ld46 Tryz.st46 Tryz.ld52 Tryz.st52 Tryz.ld54 Tryz.st54 Tryz.ld60 Tryz.st60 Tryz.ld70 Tryz.st70 Tryz.ld74 Tryz.st74 Tryz.ld93 Tryz.st93 Tryz.ld141 Tryz.st141 Tryz.ld151 Tryz.st151 Tryz.ld170 Tryz.st170 Tryz.ld186 Tryz.st186 Tryz.ld189 Tryz.st189 Tryz.ld194 Tryz.st194 Tryz.ld197 Tryz.st197 Tryz.ld219 Tryz.st219 Tryz.ld224 Tryz.st224 Tryz.ld230 Tryz.st230 Tryz.ld235 Tryz.st235 Tryz.ld243 Tryz.st243 Tryz.ld247 Tryz.st247 Tryz.ld252 Tryz.st252 Tryz.ld258 Tryz.st258 Tryz.al153 Tryz.al255 Tryz.al256 Tryz.al129 Tryz.al152 Tryz.al31 Tryz.al46 Tryz.al52 Tryz.al54 Tryz.al60 Tryz.al70 Tryz.al74 Tryz.al93 Tryz.al141 Tryz.al151 Tryz.al170 Tryz.al186 Tryz.al189 Tryz.al194 Tryz.al197 Tryz.al219 Tryz.al224 Tryz.al230 Tryz.al235 Tryz.al243 Tryz.al247 Tryz.al252 Tryz.al258
attribute [local go_sem] Request.length_enc Request.ok_enc Request.all_get Request.all_set Request.kind_get Request.kind_set Request.blob_get Request.blob_set Request.items_get Request.items_set Request.pred_get Request.pred_set Request.slots_get Request.slots_set Trace.length_enc Trace.ok_enc Trace.all_get Trace.all_set Trace.op_get Trace.op_set Trace.calls_get Trace.calls_set Item.length_enc Item.ok_enc Item.all_get Item.all_set Item.del_get Item.del_set Item.pred_get Item.pred_set Item.args_get Item.args_set Reply.length_enc Reply.ok_enc Reply.all_get Reply.all_set Reply.code_get Reply.code_set Reply.kind_get Reply.kind_set Reply.index_get Reply.index_set Reply.yes_get Reply.yes_set Reply.preds_get Reply.preds_set Reply.rules_get Reply.rules_set Reply.arity_get Reply.arity_set Reply.rows_get Reply.rows_set Reply.fact_get Reply.fact_set Reply.fact_del_get Reply.fact_del_set Reply.fact_pred_get Reply.fact_pred_set Reply.fact_args_get Reply.fact_args_set GEntry.length_enc GEntry.ok_enc GEntry.all_get GEntry.all_set GEntry.seq_get GEntry.seq_set GEntry.kind_get GEntry.kind_set GEntry.code_get GEntry.code_set GOp.length_enc GOp.ok_enc GOp.all_get GOp.all_set GOp.kind_get GOp.kind_set GOp.raw_get GOp.raw_set Reader.length_enc Reader.ok_enc Reader.all_get Reader.all_set Reader.buf_get Reader.buf_set Reader.at__get Reader.at__set Slot.length_enc Slot.ok_enc Slot.all_get Slot.all_set Slot.bound_get Slot.bound_set Slot.name_get Slot.name_set Session.length_enc Session.ok_enc Session.all_get Session.all_set Session.svc_get Session.svc_set Session.buf_get Session.buf_set Session.closed_get Session.closed_set GProgram.length_enc GProgram.ok_enc GProgram.all_get GProgram.all_set GProgram.pool_get GProgram.pool_set GProgram.preds_get GProgram.preds_set GProgram.rules_get GProgram.rules_set GProgram.strata_get GProgram.strata_set PredInfo.length_enc PredInfo.ok_enc PredInfo.all_get PredInfo.all_set PredInfo.arity_get PredInfo.arity_set PredInfo.base_get PredInfo.base_set PredInfo.stratum_get PredInfo.stratum_set Change.length_enc Change.ok_enc Change.all_get Change.all_set Change.del_get Change.del_set Change.pred_get Change.pred_set Change.t_get Change.t_set Store.length_enc Store.ok_enc Store.all_get Store.all_set Store.names_get Store.names_set Store.arity_get Store.arity_set Store.rows_get Store.rows_set Src.length_enc Src.ok_enc Src.all_get Src.all_set Src.b_get Src.b_set Src.at__get Src.at__set Atom.length_enc Atom.ok_enc Atom.all_get Atom.all_set Atom.pred_get Atom.pred_set Atom.args_get Atom.args_set GRule.length_enc GRule.ok_enc GRule.all_get GRule.all_set GRule.head_get GRule.head_set GRule.body_get GRule.body_set GRule.head_pred_get GRule.head_pred_set GRule.head_args_get GRule.head_args_set Cert.length_enc Cert.ok_enc Cert.all_get Cert.all_set Cert.names_get Cert.names_set Cert.nodes_get Cert.nodes_set Fact.length_enc Fact.ok_enc Fact.all_get Fact.all_set Fact.pred_get Fact.pred_set Fact.t_get Fact.t_set Literal.length_enc Literal.ok_enc Literal.all_get Literal.all_set Literal.neg_get Literal.neg_set Literal.atom_get Literal.atom_set Literal.atom_pred_get Literal.atom_pred_set Literal.atom_args_get Literal.atom_args_set Engine.length_enc Engine.ok_enc Engine.all_get Engine.all_set Engine.prog_get Engine.prog_set Engine.st_get Engine.st_set SrcCertm.length_enc SrcCertm.ok_enc SrcCertm.all_get SrcCertm.all_set SrcCertm.b_get SrcCertm.b_set SrcCertm.at__get SrcCertm.at__set GNode.length_enc GNode.ok_enc GNode.all_get GNode.all_set GNode.rule_get GNode.rule_set GNode.pred_get GNode.pred_set GNode.vals_get GNode.vals_set GNode.refs_get GNode.refs_set Term.length_enc Term.ok_enc Term.all_get Term.all_set Term.var_get Term.var_set Term.n_get Term.n_set Env.length_enc Env.ok_enc Env.all_get Env.all_set Env.val_get Env.val_set Env.set_get Env.set_set
attribute [local go_sem] size_put size_ext blk_put free_put blk_alloc free_alloc blk_drew free_drew blk_ext free_ext lookOr_some putOr_some segAt_some cellAt_some storeIn_some put_put put_alloc_new length_arr ok_arr_u8 ok_arr_u32 ok_arr_u64 ok_arr_i64 ok_arr_sl cellsV_agg cellsV_int cellsV_bool cellsV_string cellsV_pointer cellsV_slice cellsV_sl ok_int ok_bool ok_string ok_pointer ok_slice ok_sl toList_arr seg_arr set_arr nth_splice nth_splice0 seg_splice seg_splice0 splice_splice splice_splice0 length_splice_if
attribute [local go_sem ↓] execOp_box
attribute [local go_sem] box_run nth_arr_u8 put_arr_u8 blk_drewN free_drewN put_drewN blk_raw free_raw
/-- Labels changed: what bears a label of the group keeps it, constants stay constants. -/
theorem Sto.relab {B : Nat} {O O' : Own} {W : World} {g bst : Nat} {N : List (List UInt8)} {A : List Int} {R : List (List Tup)} (h : Sto B O W g bst N A R) (hl : ∀ k j, O k = .a (2 * g + 2) j → O' k = .a (2 * g + 2) j) (hn : ∀ k, O k = .no → O' k = .no) : Sto B O' W g bst N A R := by
  obtain ⟨na, nn, nc, aa, an, ac, ra, rn, rc, Ds, hs⟩ := h
  exact ⟨na, nn, nc, aa, an, ac, ra, rn, rc, Ds, hs.cell, hs.fre, hl _ _ hs.own, hs.low, ⟨hs.nm.1, fun k hk => hl _ _ (hs.nm.2 k hk)⟩, ⟨hs.ar.1, fun k hk => hl _ _ (hs.ar.2 k hk)⟩, ⟨hs.rw.1, fun k hk => hl _ _ (hs.rw.2 k hk)⟩, hs.dl, fun i d L h1 h2 => (hs.dr i d L h1 h2).sub (Sub.cores fun b C hb ho => ⟨hb, hn b ho⟩)⟩
theorem InsAt.relab {B : Nat} {O O' : Own} {W : World} {g bi : Nat} {s : InsS} (h : InsAt B O W g bi s) (hl : ∀ k l, O k = l → isI g l → O' k = l) (hn : ∀ k, O k = .no → O' k = .no) : InsAt B O' W g bi s := by
  obtain ⟨CI, bst, be, A, h⟩ := h
  exact ⟨CI, bst, be, A, h.cell, h.fre, hl _ _ h.own ⟨0, .inl rfl⟩, h.low, ⟨h.ic.len, h.ic.pg.sub (Sub.cores fun b C hb ho => ⟨hb, hn b ho⟩), h.ic.c4, h.ic.c5, h.ic.us, h.ic.lv⟩, h.eng, hn _ h.ego, h.st.relab (fun k j e => hl k _ e ⟨j, .inr rfl⟩) hn⟩
/-- The labels of the service: all but the service's block and its instance's group become constants. -/
def norm (g : Nat) (O : Own) : Own := fun k => match O k with
  | .a i j => if i = 0 ∧ j = 0 ∨ i = 2 * g + 1 ∨ i = 2 * g + 2 ∨ 5 ≤ i then .a i j else .no
  | l => l
theorem norm_I {g : Nat} {O : Own} {k : Nat} {l : Lab} (h : O k = l) (hl : isI g l) : norm g O k = l := by
  obtain ⟨j, e | e⟩ := hl
  · unfold norm; rw [h, e]; simp
  · unfold norm; rw [h, e]; simp
theorem norm_no {g : Nat} {O : Own} {k : Nat} (h : O k = .no) : norm g O k = .no := by unfold norm; rw [h]
theorem norm_0 {g : Nat} {O : Own} {k : Nat} (h : O k = .a 0 0) : norm g O k = .a 0 0 := by unfold norm; rw [h]; simp
theorem norm_5 {g : Nat} {O : Own} {k i j : Nat} (h : O k = .a i j) (hi : 5 ≤ i) : norm g O k = .a i j := by unfold norm; rw [h]; simp [hi]
theorem norm_free {g g' : Nat} (hg : g < 2) (hg' : g' < 2) (hne : g ≠ g') (O : Own) (k : Nat) : ¬ isI g' (norm g O k) ∧ norm g O k ≠ .a 0 8 := by
  unfold norm
  cases hO : O k with
  | no => exact ⟨isI_no g', fun e => by cases e⟩
  | a i j =>
    dsimp only
    split
    · rename_i hc
      refine ⟨?_, fun e => ?_⟩
      · rintro ⟨m, e | e⟩ <;> (have := (Lab.a.inj e).1; omega)
      · have := Lab.a.inj e; omega
    · exact ⟨isI_no g', fun e => by cases e⟩
/-- What the service leaves alone: constants and what bears a label from 5 on. -/
def kept (l : Lab) : Prop := l = .no ∨ ∃ i j, l = .a i j ∧ 5 ≤ i
structure Kp (O : Own) (W : World) (O' : Own) (V : World) : Prop where
  os : V.os = W.os
  tape : V.tape = W.tape
  output : V.output = W.output
  size : W.heap.size ≤ V.heap.size
  keep : ∀ k, k < W.heap.size → kept (O k) → O' k = O k ∧ V.heap[k]? = W.heap[k]?
theorem Kp.refl (O : Own) (W : World) : Kp O W O W := ⟨rfl, rfl, rfl, Nat.le_refl _, fun _ _ _ => ⟨rfl, rfl⟩⟩
theorem Kp.trans {O O' O'' : Own} {W V U : World} (h : Kp O W O' V) (h' : Kp O' V O'' U) : Kp O W O'' U := by
  refine ⟨h'.os.trans h.os, h'.tape.trans h.tape, h'.output.trans h.output, Nat.le_trans h.size h'.size, fun k hk hl => ?_⟩
  obtain ⟨e1, e2⟩ := h.keep k hk hl
  obtain ⟨e3, e4⟩ := h'.keep k (Nat.lt_of_lt_of_le hk h.size) (by rw [e1]; exact hl)
  exact ⟨e3.trans e1, e4.trans e2⟩
theorem Kp.fr {L : Lab → Prop} {O O' : Own} {W V : World} (h : Fr L O W O' V) (hl : ∀ l, kept l → ¬ L l) : Kp O W O' V := ⟨h.os, h.tape, h.output, h.size, fun k hk hk' => ⟨h.keep k hk, h.block k hk (hl _ hk')⟩⟩
theorem Kp.norm {O O' : Own} {W V : World} (h : Kp O W O' V) (g : Nat) : Kp O W (Go.Proofs.Qxb6500787aGreat.norm g O') V := by
  refine ⟨h.os, h.tape, h.output, h.size, fun k hk hl => ?_⟩
  obtain ⟨e1, e2⟩ := h.keep k hk hl
  refine ⟨?_, e2⟩
  rcases hl with e | ⟨i, j, e, h5⟩
  · rw [e] at e1 ⊢; exact norm_no e1
  · rw [e] at e1 ⊢; exact norm_5 e1 h5
theorem Kp.sub {O O' : Own} {W V : World} (h : Kp O W O' V) : Sub (core O W) (core O' V) := Sub.cores fun b C hb ho => by
  obtain ⟨e1, e2⟩ := h.keep b (blk_lt hb) (.inl ho)
  exact ⟨(blk_of_heap e2).trans hb, e1.trans ho⟩
theorem kept_I {g : Nat} (hg : g < 2) {l : Lab} (h : kept l) : ¬ isI g l := by
  rintro ⟨m, e | e⟩ <;> (rcases h with h | ⟨i, j, h, h5⟩ <;> (rw [h] at e; first | (have := (Lab.a.inj e).1; omega) | cases e))
theorem kept_0 {l : Lab} (h : kept l) : l ≠ .a 0 0 := by
  rintro rfl
  rcases h with h | ⟨i, j, h, h5⟩
  · cases h
  · have := (Lab.a.inj h).1; omega
/-- The service, plainly: its instance, the image, the trace, and the numbers of the other cells. -/
structure Sv where
  inst : Option InsS
  img : List UInt8
  op : Int
  calls : Int
  rst : Nat → Int
structure SvC (CS : List Value) (s : Sv) (ip ia : Option Addr) (iN ic : Nat) : Prop where
  len : CS.length = 253
  c0 : nth CS 0 = some (.pointer ip)
  c1 : nth CS 1 = some (.slice ia iN ic)
  c2 : nth CS 2 = some (.int .i64 s.op)
  c3 : nth CS 3 = some (.int .i64 s.calls)
  rs : ∀ k, 4 ≤ k → k < 253 → nth CS k = some (.int .i64 (s.rst k))
/-- The service in memory. -/
structure SvM (O : Own) (W : World) (bs g : Nat) (s : Sv) (CS : List Value) (ip ia : Option Addr) (iN ic : Nat) : Prop where
  cell : blk W bs = some CS
  fre : free W bs = true
  own : O bs = .a 0 0
  c : SvC CS s ip ia iN ic
  im : Bs (core O W) ia iN s.img
  gl : g < 2
  no : s.inst = none → ip = none ∧ ia = none ∧ iN = 0
  ins : ∀ t, s.inst = some t → ∃ B bi, ip = some ⟨bi, 0, none⟩ ∧ B ≤ W.heap.size ∧ InsAt B O W g bi t
def SvAt (O : Own) (W : World) (bs g : Nat) (s : Sv) : Prop := ∃ CS ip ia iN ic, SvM O W bs g s CS ip ia iN ic
end Go.Proofs.Qxb6500787aGreat
