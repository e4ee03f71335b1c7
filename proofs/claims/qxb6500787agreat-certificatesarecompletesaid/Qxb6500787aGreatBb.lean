import Derived.Test.Qxb6500787aGreatZw

import Derived.StillTailTactics
import Derived.Deep.QuietTactic
import Derived.BigQuiet
import Derived.Deep.RegionHeld
import Derived.Deep.CutRange
import Derived.Laws.ResultCell
import Derived.Laws.Rows
import Derived.DeepKeys
import Derived.DataBytes
import Derived.Laws.StructEq
import Derived.Laws.AppendOwn
import Derived.Laws.MakeOwn
import Derived.Lib.AppendStr
set_option linter.unusedSimpArgs false
set_option linter.unusedVariables false
namespace Go.Proofs.Qxb6500787aGreat
open Go.RowKit Go.Blk
attribute [local go_sem ↓] execOp_load execOp_store execOp_alloc
attribute [local go_sem] Tryz.ld26 Tryz.st26 Tryz.ld27 Tryz.st27 Tryz.ld28 Tryz.st28 Tryz.ld3 Tryz.st3 Tryz.ld29 Tryz.st29 Tryz.ld44 Tryz.st44 Tryz.ld4 Tryz.st4 Tryz.ld50 Tryz.st50 Tryz.ld32 Tryz.st32 Tryz.ld49 Tryz.st49 Tryz.ld68 Tryz.st68 Tryz.ld9 Tryz.st9 Tryz.ld40 Tryz.st40 Tryz.ld138 Tryz.st138 Tryz.ld139 Tryz.st139 Tryz.ld146 Tryz.st146 Tryz.ld183 Tryz.st183 Tryz.ld184 Tryz.st184 Tryz.ld192 Tryz.st192 Tryz.ld195 Tryz.st195 Tryz.ld217 Tryz.st217 Tryz.ld159 Tryz.st159 Tryz.ld142 Tryz.st142 Tryz.ld2 Tryz.st2 Tryz.ld5 Tryz.st5 Tryz.ld12 Tryz.st12 Tryz.ld21 Tryz.st21 Tryz.ld22 Tryz.st22 Tryz.ld24 Tryz.st24 Tryz.ld58 Tryz.st58 Tryz.ld97 Tryz.st97 Tryz.ld101 Tryz.st101 Tryz.ld116 Tryz.st116 Tryz.ld121 Tryz.st121 Tryz.ld135 Tryz.st135 Tryz.ld136 Tryz.st136 Tryz.ld143 Tryz.st143 Tryz.ld148 Tryz.st148 Tryz.ld154 Tryz.st154 Tryz.ld173 Tryz.st173 Tryz.ld187 Tryz.st187 Tryz.ld222 Tryz.st222 Tryz.ld241 Tryz.st241 Tryz.ld248 Tryz.st248 Tryz.ld268 Tryz.st268 Tryz.ld272 Tryz.st272 Tryz.ld153 Tryz.st153 Tryz.ld255 Tryz.st255 Tryz.ld256 Tryz.st256 Tryz.ld129 Tryz.st129 Tryz.ld152 Tryz.st152 Tryz.ld31 Tryz.st31 Tryz.ld46 Tryz.st46 Tryz.ld52 Tryz.st52 Tryz.ld54 Tryz.st54 Tryz.ld60 Tryz.st60 Tryz.ld70 Tryz.st70 Tryz.ld74 Tryz.st74 Tryz.ld93 Tryz.st93 Tryz.ld141 Tryz.st141 Tryz.ld151 Tryz.st151 Tryz.ld170 Tryz.st170 Tryz.ld186 Tryz.st186 Tryz.ld189 Tryz.st189 Tryz.ld194 Tryz.st194 Tryz.ld197 Tryz.st197 Tryz.ld219 Tryz.st219 Tryz.ld224 Tryz.st224 Tryz.ld230 Tryz.st230 Tryz.ld235 Tryz.st235 Tryz.ld243 Tryz.st243 Tryz.ld247 Tryz.st247 Tryz.ld252 Tryz.st252 Tryz.ld258 Tryz.st258 Tryz.al153 Tryz.al255 Tryz.al256 Tryz.al129 Tryz.al152 Tryz.al31 Tryz.al46 Tryz.al52 Tryz.al54 Tryz.al60 Tryz.al70 Tryz.al74 Tryz.al93 Tryz.al141 Tryz.al151 Tryz.al170 Tryz.al186 Tryz.al189 Tryz.al194 Tryz.al197 Tryz.al219 Tryz.al224 Tryz.al230 Tryz.al235 Tryz.al243 Tryz.al247 Tryz.al252 Tryz.al258
attribute [local go_sem] Request.length_enc Request.ok_enc Request.all_get Request.all_set Request.kind_get Request.kind_set Request.blob_get Request.blob_set Request.items_get Request.items_set Request.pred_get Request.pred_set Request.slots_get Request.slots_set Trace.length_enc Trace.ok_enc Trace.all_get Trace.all_set Trace.op_get Trace.op_set Trace.calls_get Trace.calls_set Item.length_enc Item.ok_enc Item.all_get Item.all_set Item.del_get Item.del_set Item.pred_get Item.pred_set Item.args_get Item.args_set Reply.length_enc Reply.ok_enc Reply.all_get Reply.all_set Reply.code_get Reply.code_set Reply.kind_get Reply.kind_set Reply.index_get Reply.index_set Reply.yes_get Reply.yes_set Reply.preds_get Reply.preds_set Reply.rules_get Reply.rules_set Reply.arity_get Reply.arity_set Reply.rows_get Reply.rows_set Reply.fact_get Reply.fact_set Reply.fact_del_get Reply.fact_del_set Reply.fact_pred_get Reply.fact_pred_set Reply.fact_args_get Reply.fact_args_set GEntry.length_enc GEntry.ok_enc GEntry.all_get GEntry.all_set GEntry.seq_get GEntry.seq_set GEntry.kind_get GEntry.kind_set GEntry.code_get GEntry.code_set GOp.length_enc GOp.ok_enc GOp.all_get GOp.all_set GOp.kind_get GOp.kind_set GOp.raw_get GOp.raw_set Reader.length_enc Reader.ok_enc Reader.all_get Reader.all_set Reader.buf_get Reader.buf_set Reader.at__get Reader.at__set Slot.length_enc Slot.ok_enc Slot.all_get Slot.all_set Slot.bound_get Slot.bound_set Slot.name_get Slot.name_set Session.length_enc Session.ok_enc Session.all_get Session.all_set Session.svc_get Session.svc_set Session.buf_get Session.buf_set Session.closed_get Session.closed_set GProgram.length_enc GProgram.ok_enc GProgram.all_get GProgram.all_set GProgram.pool_get GProgram.pool_set GProgram.preds_get GProgram.preds_set GProgram.rules_get GProgram.rules_set GProgram.strata_get GProgram.strata_set PredInfo.length_enc PredInfo.ok_enc PredInfo.all_get PredInfo.all_set PredInfo.arity_get PredInfo.arity_set PredInfo.base_get PredInfo.base_set PredInfo.stratum_get PredInfo.stratum_set Change.length_enc Change.ok_enc Change.all_get Change.all_set Change.del_get Change.del_set Change.pred_get Change.pred_set Change.t_get Change.t_set Store.length_enc Store.ok_enc Store.all_get Store.all_set Store.names_get Store.names_set Store.arity_get Store.arity_set Store.rows_get Store.rows_set Src.length_enc Src.ok_enc Src.all_get Src.all_set Src.b_get Src.b_set Src.at__get Src.at__set Atom.length_enc Atom.ok_enc Atom.all_get Atom.all_set Atom.pred_get Atom.pred_set Atom.args_get Atom.args_set GRule.length_enc GRule.ok_enc GRule.all_get GRule.all_set GRule.head_get GRule.head_set GRule.body_get GRule.body_set GRule.head_pred_get GRule.head_pred_set GRule.head_args_get GRule.head_args_set Cert.length_enc Cert.ok_enc Cert.all_get Cert.all_set Cert.names_get Cert.names_set Cert.nodes_get Cert.nodes_set Fact.length_enc Fact.ok_enc Fact.all_get Fact.all_set Fact.pred_get Fact.pred_set Fact.t_get Fact.t_set Literal.length_enc Literal.ok_enc Literal.all_get Literal.all_set Literal.neg_get Literal.neg_set Literal.atom_get Literal.atom_set Literal.atom_pred_get Literal.atom_pred_set Literal.atom_args_get Literal.atom_args_set Engine.length_enc Engine.ok_enc Engine.all_get Engine.all_set Engine.prog_get Engine.prog_set Engine.st_get Engine.st_set SrcCertm.length_enc SrcCertm.ok_enc SrcCertm.all_get SrcCertm.all_set SrcCertm.b_get SrcCertm.b_set SrcCertm.at__get SrcCertm.at__set GNode.length_enc GNode.ok_enc GNode.all_get GNode.all_set GNode.rule_get GNode.rule_set GNode.pred_get GNode.pred_set GNode.vals_get GNode.vals_set GNode.refs_get GNode.refs_set Term.length_enc Term.ok_enc Term.all_get Term.all_set Term.var_get Term.var_set Term.n_get Term.n_set Env.length_enc Env.ok_enc Env.all_get Env.all_set Env.val_get Env.val_set Env.set_get Env.set_set
attribute [local go_sem] size_put size_ext blk_put free_put blk_alloc free_alloc blk_drew free_drew blk_ext free_ext lookOr_some putOr_some segAt_some cellAt_some storeIn_some put_put put_alloc_new length_arr ok_arr_u8 ok_arr_u32 ok_arr_u64 ok_arr_i64 ok_arr_sl cellsV_agg cellsV_int cellsV_bool cellsV_string cellsV_pointer cellsV_slice cellsV_sl ok_int ok_bool ok_string ok_pointer ok_slice ok_sl toList_arr seg_arr set_arr nth_splice nth_splice0 seg_splice seg_splice0 splice_splice splice_splice0 length_splice_if
attribute [local go_sem ↓] execOp_box
attribute [local go_sem] box_run nth_arr_u8 put_arr_u8 blk_drewN free_drewN put_drewN blk_raw free_raw
theorem kept_8 {l : Lab} (h : kept l) : l ≠ .a 0 8 := by
  rintro rfl
  rcases h with h | ⟨i, j, h, h5⟩
  · cases h
  · have := (Lab.a.inj h).1; omega
/-- Two services in one memory: what one owns the other leaves alone. -/
structure Tw (Ob : Own) (Wb : World) (b1 b2 : Nat) (m1 m2 : Int) (s t : Sv) (O1 O2 : Own) (g1 g2 : Nat) (V : World) : Prop where
  os : V.os = Wb.os
  tape : V.tape = Wb.tape
  output : V.output = Wb.output
  size : Wb.heap.size ≤ V.heap.size
  keep : ∀ k, k < Wb.heap.size → Ob k = .no → O1 k = .no ∧ V.heap[k]? = Wb.heap[k]?
  l1 : LS O1 V b1 m1 s O1 g1 V
  l2 : LS O2 V b2 m2 t O2 g2 V
  no : ∀ k, k < V.heap.size → (O1 k = .no ↔ O2 k = .no)
  x1 : ∀ k, k < V.heap.size → (O1 k = .a 0 0 ∨ isI g1 (O1 k)) → kept (O2 k)
  x2 : ∀ k, k < V.heap.size → (O2 k = .a 0 0 ∨ isI g2 (O2 k)) → kept (O1 k)
theorem Tw.swap {Ob : Own} {Wb : World} {b1 b2 : Nat} {m1 m2 : Int} {s t : Sv} {O1 O2 : Own} {g1 g2 : Nat} {V : World} (h : Tw Ob Wb b1 b2 m1 m2 s t O1 O2 g1 g2 V) : Tw Ob Wb b2 b1 m2 m1 t s O2 O1 g2 g1 V :=
  ⟨h.os, h.tape, h.output, h.size, fun k hk ho => ⟨(h.no k (Nat.lt_of_lt_of_le hk h.size)).1 (h.keep k hk ho).1, (h.keep k hk ho).2⟩, h.l2, h.l1, fun k hk => (h.no k hk).symm, h.x2, h.x1⟩
/-- The first service did something, the second lay still. -/
theorem Tw.step {Ob : Own} {Wb : World} {b1 b2 : Nat} {m1 m2 : Int} {s t : Sv} {O1 O2 : Own} {g1 g2 : Nat} {V : World} (h : Tw Ob Wb b1 b2 m1 m2 s t O1 O2 g1 g2 V) {m1' : Int} {s' : Sv} {O1' : Own} {g1' : Nat} {V' : World} (h' : LS O1 V b1 m1' s' O1' g1' V') : ∃ O2', Tw Ob Wb b1 b2 m1' m2 s' t O1' O2' g1' g2 V' := by
  classical
  have hK := h'.kp
  obtain ⟨CS, ip, ia, iN, ic, hS2⟩ := h.l2.sv
  have hg1' : g1' < 2 := by
    obtain ⟨_, _, _, _, _, h9⟩ := h'.sv
    exact h9.gl
  have hg2 := hS2.gl
  obtain ⟨O2', hO1, hO2, hO3⟩ : ∃ O2' : Own, (∀ k, (k < V.heap.size ∧ kept (O1 k)) → O2' k = O2 k) ∧ (∀ k, ¬ (k < V.heap.size ∧ kept (O1 k)) → kept (O1' k) → O2' k = O1' k) ∧ (∀ k, ¬ (k < V.heap.size ∧ kept (O1 k)) → ¬ kept (O1' k) → O2' k = .a 5 70) := by
    refine ⟨fun k => if k < V.heap.size ∧ kept (O1 k) then O2 k else if kept (O1' k) then O1' k else .a 5 70, fun k h1 => if_pos h1, fun k h1 h2 => ?_, fun k h1 h2 => ?_⟩
    · show (if _ then _ else _) = _
      rw [if_neg h1, if_pos h2]
    · show (if _ then _ else _) = _
      rw [if_neg h1, if_neg h2]
  have k570 : kept (.a 5 70) := .inr ⟨5, 70, rfl, Nat.le_refl _⟩
  have c2 : ∀ k, (k < V.heap.size ∧ kept (O1 k) ∧ O2' k = O2 k ∧ O1' k = O1 k) ∨ (kept (O2' k) ∧ (O2' k = O1' k ∨ (O2' k = .a 5 70 ∧ ¬ kept (O1' k)))) := fun k => by
    by_cases h1 : k < V.heap.size ∧ kept (O1 k)
    · exact .inl ⟨h1.1, h1.2, hO1 k h1, (hK.keep k h1.1 h1.2).1⟩
    · by_cases h2 : kept (O1' k)
      · have e := hO2 k h1 h2
        exact .inr ⟨by rw [e]; exact h2, .inl e⟩
      · have e := hO3 k h1 h2
        exact .inr ⟨by rw [e]; exact k570, .inr ⟨e, h2⟩⟩
  have hot : ∀ {g : Nat} {l : Lab}, g < 2 → (l = .a 0 0 ∨ isI g l) → ¬ kept l := fun hg hh hk => by
    rcases hh with e | e
    · exact kept_0 hk e
    · exact kept_I hg hk e
  have hmv : SvM O2' V' b2 g2 t CS ip ia iN ic := hS2.move hK.os hK.tape hK.output hK.size (fun k hk hh => by
    have hk1 : kept (O1 k) := by
      rcases hh with e | e | e
      · exact .inl ((h.no k hk).2 e)
      · exact h.x2 k hk (.inl e)
      · exact h.x2 k hk (.inr e)
    exact ⟨hO1 k ⟨hk, hk1⟩, (hK.keep k hk hk1).2⟩)
  refine ⟨O2', hK.os.trans h.os, hK.tape.trans h.tape, hK.output.trans h.output, Nat.le_trans h.size hK.size, fun k hk ho => ?_, ⟨Kp.refl _ _, h'.sv, h'.fr, h'.lo, h'.inv⟩, ⟨Kp.refl _ _, ⟨_, _, _, _, _, hmv⟩, fun k => ?_, fun k i j e => ?_, h.l2.inv⟩, fun k hk => ?_, fun k hk hh => ?_, fun k hk hh => ?_⟩
  · obtain ⟨e1, e2⟩ := h.keep k hk ho
    obtain ⟨e3, e4⟩ := hK.keep k (Nat.lt_of_lt_of_le hk h.size) (.inl e1)
    exact ⟨e3.trans e1, e4.trans e2⟩
  · rcases c2 k with ⟨-, -, e, -⟩ | ⟨e, -⟩
    · rw [e]; exact h.l2.fr k
    · exact ⟨kept_I (by omega) e, kept_8 e⟩
  · rcases c2 k with ⟨-, -, e1, -⟩ | ⟨-, e1 | ⟨e1, -⟩⟩
    · rw [e1] at e; exact h.l2.lo k i j e
    · rw [e1] at e; exact h'.lo k i j e
    · rw [e1] at e
      have := (Lab.a.inj e).1
      omega
  · rcases c2 k with ⟨h1, -, e1, e2⟩ | ⟨-, e1 | ⟨e1, e2⟩⟩
    · rw [e1, e2]; exact h.no k h1
    · rw [e1]
    · refine ⟨fun e => absurd (Or.inl e) e2, fun e => ?_⟩
      rw [e1] at e; cases e
  · rcases c2 k with ⟨-, h1, -, e2⟩ | ⟨h1, -⟩
    · rw [e2] at hh; exact absurd h1 (hot hg1' hh)
    · exact h1
  · rcases c2 k with ⟨-, h1, -, e2⟩ | ⟨h1, -⟩
    · rw [e2]; exact h1
    · exact absurd h1 (hot hg2 hh)
theorem Tw.cores {Ob : Own} {Wb : World} {b1 b2 : Nat} {m1 m2 : Int} {s t : Sv} {O1 O2 : Own} {g1 g2 : Nat} {V : World} (h : Tw Ob Wb b1 b2 m1 m2 s t O1 O2 g1 g2 V) : Sub (core O1 V) (core O2 V) := Sub.cores fun b C hb ho => ⟨hb, (h.no b (blk_lt hb)).1 ho⟩
theorem Tw.sub {Ob : Own} {Wb : World} {b1 b2 : Nat} {m1 m2 : Int} {s t : Sv} {O1 O2 : Own} {g1 g2 : Nat} {V : World} (h : Tw Ob Wb b1 b2 m1 m2 s t O1 O2 g1 g2 V) : Sub (core Ob Wb) (core O1 V) := Sub.cores fun b C hb ho => by
  obtain ⟨e1, e2⟩ := h.keep b (blk_lt hb) ho
  exact ⟨(blk_of_heap e2).trans hb, e1⟩
theorem Tw.blk {Ob : Own} {Wb : World} {b1 b2 : Nat} {m1 m2 : Int} {s t : Sv} {O1 O2 : Own} {g1 g2 : Nat} {V : World} (h : Tw Ob Wb b1 b2 m1 m2 s t O1 O2 g1 g2 V) {b : Nat} {C : List Value} (hb : Blk.blk Wb b = some C) (ho : Ob b = .no) : Blk.blk V b = some C ∧ O1 b = .no := by
  obtain ⟨e1, e2⟩ := h.keep b (blk_lt hb) ho
  exact ⟨(blk_of_heap e2).trans hb, e1⟩
theorem Tw.ext {w : World} {Ob : Own} {Wb : World} {b1 b2 : Nat} {m1 m2 : Int} {s t : Sv} {O1 O2 : Own} {g1 g2 : Nat} {V : World} (h : Tw Ob Wb b1 b2 m1 m2 s t O1 O2 g1 g2 V) (hx : w.Extends Wb) (ho : ∀ k, k < w.heap.size → Ob k = .no) : w.Extends V := by
  refine ext_of (h.os.trans hx.os) (h.tape.trans hx.tape) (h.output.trans hx.output) (Nat.le_trans hx.size h.size) (fun k hk => ?_)
  exact ((h.keep k (Nat.lt_of_lt_of_le hk hx.size) (ho k hk)).2).trans (hx.block k hk)
theorem LS.self {Ob : Own} {Wb : World} {bs : Nat} {m : Int} {s : Sv} {O : Own} {g : Nat} {V : World} (h : LS Ob Wb bs m s O g V) : LS O V bs m s O g V := ⟨Kp.refl _ _, h.sv, h.fr, h.lo, h.inv⟩
theorem Tw.grow {Ob : Own} {Wb : World} {b1 b2 : Nat} {m1 m2 : Int} {s t : Sv} {O1 O2 : Own} {g1 g2 : Nat} {V V' : World} (h : Tw Ob Wb b1 b2 m1 m2 s t O1 O2 g1 g2 V) (hx : V.Extends V') : ∃ O1' O2', Tw Ob Wb b1 b2 m1 m2 s t O1' O2' g1 g2 V' := by
  obtain ⟨O2', h9⟩ := h.step (h.l1.grow hx)
  exact ⟨_, _, h9⟩
theorem Tw.drewN {Ob : Own} {Wb : World} {b1 b2 : Nat} {m1 m2 : Int} {s t : Sv} {O1 O2 : Own} {g1 g2 : Nat} {V : World} (h : Tw Ob Wb b1 b2 m1 m2 s t O1 O2 g1 g2 V) (n : Nat) : Tw Ob Wb b1 b2 m1 m2 s t O1 O2 g1 g2 (V.drewN n) :=
  ⟨h.os, h.tape, h.output, h.size, h.keep, (h.l1.drewN n).self, (h.l2.drewN n).self, h.no, h.x1, h.x2⟩
/-- The labels of the first of two new services. -/
def lab2 (b1 b2 : Nat) : Own := fun k => if k = b1 then .a 0 0 else if k = b2 then .a 5 70 else .no
theorem lab2_1 (b1 b2 : Nat) : lab2 b1 b2 b1 = .a 0 0 := if_pos rfl
theorem lab2_2 {b1 b2 : Nat} (h : b1 ≠ b2) : lab2 b1 b2 b2 = .a 5 70 := by unfold lab2; rw [if_neg (fun e => h e.symm), if_pos rfl]
theorem lab2_no {b1 b2 k : Nat} (h1 : k ≠ b1) (h2 : k ≠ b2) : lab2 b1 b2 k = .no := by unfold lab2; rw [if_neg h1, if_neg h2]
theorem lab2_or {b1 b2 : Nat} (h : b1 ≠ b2) (k : Nat) : (k = b1 ∧ lab2 b1 b2 k = .a 0 0) ∨ (k = b2 ∧ lab2 b1 b2 k = .a 5 70) ∨ (k ≠ b1 ∧ k ≠ b2 ∧ lab2 b1 b2 k = .no) := by
  by_cases h1 : k = b1
  · exact .inl ⟨h1, by rw [h1]; exact lab2_1 _ _⟩
  · by_cases h2 : k = b2
    · exact .inr (.inl ⟨h2, by rw [h2]; exact lab2_2 h⟩)
    · exact .inr (.inr ⟨h1, h2, lab2_no h1 h2⟩)
theorem new_ls {W : World} {b1 b2 : Nat} (hne : b1 ≠ b2) (hb : Blk.blk W b1 = some newE) (hf : free W b1 = true) : LS (lab2 b1 b2) W b1 1000 Sv.zero (lab2 b1 b2) 0 W := by
  refine ⟨Kp.refl _ _, ⟨newE, none, none, 0, 0, hb, hf, lab2_1 _ _, newE_c, ⟨rfl, fun h => absurd rfl h, .inl rfl⟩, by omega, fun _ => ⟨rfl, rfl, rfl⟩, fun t h => by cases h⟩, fun k => ?_, fun k i j e => ?_, svI_zero⟩
  · rcases lab2_or hne k with ⟨-, e⟩ | ⟨-, e⟩ | ⟨-, -, e⟩
    · rw [e]; exact ⟨isI_0 _, fun e => by cases e⟩
    · rw [e]; exact ⟨isI_5 (by omega), fun e => by cases e⟩
    · rw [e]; exact ⟨isI_no _, fun e => by cases e⟩
  · rcases lab2_or hne k with ⟨-, e1⟩ | ⟨-, e1⟩ | ⟨-, -, e1⟩
    · rw [e1] at e; have := (Lab.a.inj e).1; omega
    · rw [e1] at e; have := (Lab.a.inj e).1; omega
    · rw [e1] at e; cases e
theorem new_tw {W : World} {b1 b2 : Nat} (hne : b1 ≠ b2) (hb1 : Blk.blk W b1 = some newE) (hf1 : free W b1 = true) (hb2 : Blk.blk W b2 = some newE) (hf2 : free W b2 = true) : Tw (lab2 b1 b2) W b1 b2 1000 1000 Sv.zero Sv.zero (lab2 b1 b2) (lab2 b2 b1) 0 0 W := by
  have hne' : b2 ≠ b1 := fun e => hne e.symm
  have k570 : kept (.a 5 70) := .inr ⟨5, 70, rfl, Nat.le_refl _⟩
  refine ⟨rfl, rfl, rfl, Nat.le_refl _, fun k _ h => ⟨h, rfl⟩, new_ls hne hb1 hf1, new_ls hne' hb2 hf2, fun k _ => ?_, fun k _ hh => ?_, fun k _ hh => ?_⟩
  · rcases lab2_or hne k with ⟨e0, e⟩ | ⟨e0, e⟩ | ⟨e0, e1, e⟩
    · rw [e, e0, lab2_2 hne']; exact ⟨(fun e => by cases e), (fun e => by cases e)⟩
    · rw [e, e0, lab2_1]; exact ⟨(fun e => by cases e), (fun e => by cases e)⟩
    · rw [e, lab2_no e1 e0]
  · rcases lab2_or hne k with ⟨e0, e⟩ | ⟨e0, e⟩ | ⟨e0, e1, e⟩
    · rw [e0, lab2_2 hne']; exact k570
    · rw [e] at hh
      rcases hh with h9 | h9
      · cases h9
      · exact absurd h9 (isI_5 (by omega))
    · rw [e] at hh
      rcases hh with h9 | h9
      · cases h9
      · exact absurd h9 (isI_no _)
  · rcases lab2_or hne' k with ⟨e0, e⟩ | ⟨e0, e⟩ | ⟨e0, e1, e⟩
    · rw [e0, lab2_2 hne]; exact k570
    · rw [e] at hh
      rcases hh with h9 | h9
      · cases h9
      · exact absurd h9 (isI_5 (by omega))
    · rw [e] at hh
      rcases hh with h9 | h9
      · cases h9
      · exact absurd h9 (isI_no _)
/-- The laws of two services begin alike. -/
structure Beg2 (w : World) (b1 b2 : Nat) (len : Nat) (g : Nat → GOp) (dt : Nat → List UInt8) (A : Option Addr) (N Cp : Nat) (L : List Sl) (Ob : Own) (Wb : World) : Prop where
  tw : Tw Ob Wb b1 b2 1000 1000 Sv.zero Sv.zero Ob (lab2 b2 b1) 0 0 Wb
  ex : w.Extends Wb
  old : ∀ k, k < w.heap.size → Ob k = .no
  row : Rw encR 1 (core Ob Wb) A N L
  nn : N ≤ 65536
  raw : ∀ s ∈ L, ∃ j, j < len ∧ s = (g j).raw ∧ (g j).raw.len ≤ 65536 ∧ BytesIn w (g j).raw (dt j)
theorem beg2_of {w : World} {a : Option Addr} {len cap : Nat} {g : Nat → GOp} {dt : Nat → List UInt8} (hS : ScriptAt w a len cap g dt) (hlen : len ≤ 65536) (hsz : ∀ i, i < len → (g i).raw.len ≤ 65536) {w3 W1 : World} {A : Option Addr} {N Cp : Nat} {L : List Sl} {b1 b2 : Nat} (hx3 : w.Extends w3) (hb1 : Blk.blk w3 b1 = some newE) (hf1 : free w3 b1 = true) (hb2 : Blk.blk w3 b2 = some newE) (hf2 : free w3 b2 = true) (h1 : w.heap.size ≤ b1) (h2 : w.heap.size ≤ b2) (hne : b1 ≠ b2) (hat : SendsAt w3 W1 len g A N Cp L) : Beg2 w b1 b2 len g dt A N Cp L (lab2 b1 b2) W1 := by
  have hx := hat.2.2.2.2
  refine ⟨new_tw hne ((hx.blk (blk_lt hb1)).trans hb1) ((free_of_heap (hx.block b1 (blk_lt hb1))).trans hf1) ((hx.blk (blk_lt hb2)).trans hb2) ((free_of_heap (hx.block b2 (blk_lt hb2))).trans hf2), hx3.trans hx, fun k hk => lab2_no (by omega) (by omega), ?_, by have := hat.2.2.1; omega, fun s hs => ?_⟩
  · refine (rw_own encR_len hat.1).1.tocore (fun b C e _ => ?_)
    have h9 := (row_at hat.1 b (by rw [e]; rfl)).1
    have h8 := blk_lt hb1
    have h7 := blk_lt hb2
    exact lab2_no (by omega) (by omega)
  · obtain ⟨j, hj, e⟩ := hat.2.2.2.1 s hs
    exact ⟨j, hj, e, hsz j hj, (hS.2.2.1 j hj).1⟩
theorem Beg2.at {w : World} {b1 b2 len : Nat} {g : Nat → GOp} {dt : Nat → List UInt8} {A : Option Addr} {N Cp : Nat} {L : List Sl} {Ob : Own} {Wb : World} (h : Beg2 w b1 b2 len g dt A N Cp L Ob Wb) {i : Nat} (hi : i < N) : ∃ s raw b C, A = some ⟨b, 0, none⟩ ∧ Blk.blk Wb b = some C ∧ Ob b = .no ∧ i + 1 ≤ C.length ∧ nth C i = some (.slice s.a s.len s.cap) ∧ raw.length ≤ 65536 ∧ Dec2 (core Ob Wb) s raw := by
  obtain ⟨s, hs⟩ : ∃ s, L[i]? = some s := ⟨_, List.getElem?_eq_getElem (by rw [h.row.1]; exact hi)⟩
  obtain ⟨b, C, e1, e2, e3, e4, e5⟩ := rw_cell h.row hs (show encR s = [Sl.val s] from rfl)
  obtain ⟨j, hj, rfl, h1, h2⟩ := h.raw s (List.mem_of_getElem? hs)
  have hd := dec2_of h2 h1
  have hsub : Sub w (core Ob Wb) := fun b C hb => blk_core ((h.ex.blk (blk_lt hb)).trans hb) (h.old b (blk_lt hb))
  refine ⟨(g j).raw, dt j, b, C, e1, (core_blk e2).1, (core_blk e2).2, e3, e5, ?_, hd.sub hsub⟩
  rcases hd with ⟨_, h⟩ | ⟨h1, _, _, h4⟩
  · rw [h]; simp
  · rw [h1.1]; exact h4
end Go.Proofs.Qxb6500787aGreat
