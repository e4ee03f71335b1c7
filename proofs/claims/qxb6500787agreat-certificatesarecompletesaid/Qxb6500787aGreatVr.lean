
import Derived.Test.Qxb6500787aGreatVq
import Derived.StillTailTactics
import Derived.Deep.QuietTactic
import Derived.BigQuiet
import Derived.Deep.RegionHeld
import Derived.Deep.CutRange
import Derived.Laws.ResultCell
import Derived.Laws.Rows
import Derived.DeepKeys
import Derived.DataBytes
import Derived.Laws.StructEq
import Derived.Laws.AppendOwn
import Derived.Laws.MakeOwn
import Derived.Lib.AppendStr
set_option linter.unusedSimpArgs false
set_option linter.unusedVariables false
namespace Go.Proofs.Qxb6500787aGreat
open Go.RowKit Go.Blk
attribute [local go_sem ↓] execOp_load execOp_store execOp_alloc
attribute [local go_sem] Tryz.ld26 Tryz.st26 Tryz.ld27 Tryz.st27 Tryz.ld28 Tryz.st28 Tryz.ld3 Tryz.st3 Tryz.ld29 Tryz.st29 Tryz.ld44 Tryz.st44 Tryz.ld4 Tryz.st4 Tryz.ld50 Tryz.st50 Tryz.ld32 Tryz.st32 Tryz.ld49 Tryz.st49 Tryz.ld68 Tryz.st68 Tryz.ld9 Tryz.st9 Tryz.ld40 Tryz.st40 Tryz.ld138 Tryz.st138 Tryz.ld139 Tryz.st139 Tryz.ld146 Tryz.st146 Tryz.ld183 Tryz.st183 Tryz.ld184 Tryz.st184 Tryz.ld192 Tryz.st192 Tryz.ld195 Tryz.st195 Tryz.ld217 Tryz.st217 Tryz.ld159 Tryz.st159 Tryz.ld142 Tryz.st142 Tryz.ld2 Tryz.st2 Tryz.ld5 Tryz.st5 Tryz.ld12 Tryz.st12 Tryz.ld21 Tryz.st21 Tryz.ld22 Tryz.st22 Tryz.ld24 Tryz.st24 Tryz.ld58 Tryz.st58 Tryz.ld97 Tryz.st97 Tryz.ld101 Tryz.st101 Tryz.ld116 Tryz.st116 Tryz.ld121 Tryz.st121 Tryz.ld135 Tryz.st135 Tryz.ld136 Tryz.st136 Tryz.ld143 Tryz.st143 Tryz.ld148 Tryz.st148 Tryz.ld154 Tryz.st154 Tryz.ld173 Tryz.st173 Tryz.ld187 Tryz.st187 Tryz.ld222 Tryz.st222 Tryz.ld241 Tryz.st241 Tryz.ld248 Tryz.st248 Tryz.ld268 Tryz.st268 Tryz.ld272 Tryz.st272 Tryz.ld153 Tryz.st153 Tryz.ld255 Tryz.st255 Tryz.ld256 Tryz.st256 Tryz.ld129 Tryz.st129 Tryz.ld152 Tryz.st152 Tryz.ld31 Tryz.st31 Tryz.ld46 Tryz.st46 Tryz.ld52 Tryz.st52 Tryz.ld54 Tryz.st54 Tryz.ld60 Tryz.st60 Tryz.ld70 Tryz.st70 Tryz.ld74 Tryz.st74 Tryz.ld93 Tryz.st93 Tryz.ld141 Tryz.st141 Tryz.ld151 Tryz.st151 Tryz.ld170 Tryz.st170 Tryz.ld186 Tryz.st186 Tryz.ld189 Tryz.st189 Tryz.ld194 Tryz.st194 Tryz.ld197 Tryz.st197 Tryz.ld219 Tryz.st219 Tryz.ld224 Tryz.st224 Tryz.ld230 Tryz.st230 Tryz.ld235 Tryz.st235 Tryz.ld243 Tryz.st243 Tryz.ld247 Tryz.st247 Tryz.ld252 Tryz.st252 Tryz.ld258 Tryz.st258 Tryz.al153 Tryz.al255 Tryz.al256 Tryz.al129 Tryz.al152 Tryz.al31 Tryz.al46 Tryz.al52 Tryz.al54 Tryz.al60 Tryz.al70 Tryz.al74 Tryz.al93 Tryz.al141 Tryz.al151 Tryz.al170 Tryz.al186 Tryz.al189 Tryz.al194 Tryz.al197 Tryz.al219 Tryz.al224 Tryz.al230 Tryz.al235 Tryz.al243 Tryz.al247 Tryz.al252 Tryz.al258
attribute [local go_sem] Request.length_enc Request.ok_enc Request.all_get Request.all_set Request.kind_get Request.kind_set Request.blob_get Request.blob_set Request.items_get Request.items_set Request.pred_get Request.pred_set Request.slots_get Request.slots_set Trace.length_enc Trace.ok_enc Trace.all_get Trace.all_set Trace.op_get Trace.op_set Trace.calls_get Trace.calls_set Item.length_enc Item.ok_enc Item.all_get Item.all_set Item.del_get Item.del_set Item.pred_get Item.pred_set Item.args_get Item.args_set Reply.length_enc Reply.ok_enc Reply.all_get Reply.all_set Reply.code_get Reply.code_set Reply.kind_get Reply.kind_set Reply.index_get Reply.index_set Reply.yes_get Reply.yes_set Reply.preds_get Reply.preds_set Reply.rules_get Reply.rules_set Reply.arity_get Reply.arity_set Reply.rows_get Reply.rows_set Reply.fact_get Reply.fact_set Reply.fact_del_get Reply.fact_del_set Reply.fact_pred_get Reply.fact_pred_set Reply.fact_args_get Reply.fact_args_set GEntry.length_enc GEntry.ok_enc GEntry.all_get GEntry.all_set GEntry.seq_get GEntry.seq_set GEntry.kind_get GEntry.kind_set GEntry.code_get GEntry.code_set GOp.length_enc GOp.ok_enc GOp.all_get GOp.all_set GOp.kind_get GOp.kind_set GOp.raw_get GOp.raw_set Reader.length_enc Reader.ok_enc Reader.all_get Reader.all_set Reader.buf_get Reader.buf_set Reader.at__get Reader.at__set Slot.length_enc Slot.ok_enc Slot.all_get Slot.all_set Slot.bound_get Slot.bound_set Slot.name_get Slot.name_set Session.length_enc Session.ok_enc Session.all_get Session.all_set Session.svc_get Session.svc_set Session.buf_get Session.buf_set Session.closed_get Session.closed_set GProgram.length_enc GProgram.ok_enc GProgram.all_get GProgram.all_set GProgram.pool_get GProgram.pool_set GProgram.preds_get GProgram.preds_set GProgram.rules_get GProgram.rules_set GProgram.strata_get GProgram.strata_set PredInfo.length_enc PredInfo.ok_enc PredInfo.all_get PredInfo.all_set PredInfo.arity_get PredInfo.arity_set PredInfo.base_get PredInfo.base_set PredInfo.stratum_get PredInfo.stratum_set Change.length_enc Change.ok_enc Change.all_get Change.all_set Change.del_get Change.del_set Change.pred_get Change.pred_set Change.t_get Change.t_set Store.length_enc Store.ok_enc Store.all_get Store.all_set Store.names_get Store.names_set Store.arity_get Store.arity_set Store.rows_get Store.rows_set Src.length_enc Src.ok_enc Src.all_get Src.all_set Src.b_get Src.b_set Src.at__get Src.at__set Atom.length_enc Atom.ok_enc Atom.all_get Atom.all_set Atom.pred_get Atom.pred_set Atom.args_get Atom.args_set GRule.length_enc GRule.ok_enc GRule.all_get GRule.all_set GRule.head_get GRule.head_set GRule.body_get GRule.body_set GRule.head_pred_get GRule.head_pred_set GRule.head_args_get GRule.head_args_set Cert.length_enc Cert.ok_enc Cert.all_get Cert.all_set Cert.names_get Cert.names_set Cert.nodes_get Cert.nodes_set Fact.length_enc Fact.ok_enc Fact.all_get Fact.all_set Fact.pred_get Fact.pred_set Fact.t_get Fact.t_set Literal.length_enc Literal.ok_enc Literal.all_get Literal.all_set Literal.neg_get Literal.neg_set Literal.atom_get Literal.atom_set Literal.atom_pred_get Literal.atom_pred_set Literal.atom_args_get Literal.atom_args_set Engine.length_enc Engine.ok_enc Engine.all_get Engine.all_set Engine.prog_get Engine.prog_set Engine.st_get Engine.st_set SrcCertm.length_enc SrcCertm.ok_enc SrcCertm.all_get SrcCertm.all_set SrcCertm.b_get SrcCertm.b_set SrcCertm.at__get SrcCertm.at__set GNode.length_enc GNode.ok_enc GNode.all_get GNode.all_set GNode.rule_get GNode.rule_set GNode.pred_get GNode.pred_set GNode.vals_get GNode.vals_set GNode.refs_get GNode.refs_set Term.length_enc Term.ok_enc Term.all_get Term.all_set Term.var_get Term.var_set Term.n_get Term.n_set Env.length_enc Env.ok_enc Env.all_get Env.all_set Env.val_get Env.val_set Env.set_get Env.set_set
attribute [local go_sem] size_put size_ext blk_put free_put blk_alloc free_alloc blk_drew free_drew blk_ext free_ext lookOr_some putOr_some segAt_some cellAt_some storeIn_some put_put put_alloc_new length_arr ok_arr_u8 ok_arr_u32 ok_arr_u64 ok_arr_i64 ok_arr_sl cellsV_agg cellsV_int cellsV_bool cellsV_string cellsV_pointer cellsV_slice cellsV_sl ok_int ok_bool ok_string ok_pointer ok_slice ok_sl toList_arr seg_arr set_arr nth_splice nth_splice0 seg_splice seg_splice0 splice_splice splice_splice0 length_splice_if
attribute [local go_sem ↓] execOp_box
attribute [local go_sem] box_run nth_arr_u8 put_arr_u8 blk_drewN free_drewN put_drewN blk_raw free_raw
/-- The reply to a load. -/
def ldP (p : PP) : Reply := ⟨0, 1, -1, false, (p.preds.length : Int), (p.rules.length : Int), 0, ⟨none, 0, 0⟩, ⟨false, 0, ⟨none, 0, 0⟩⟩⟩
def Sv.lowN (s : Sv) (op : Int) : Sv := ⟨s.inst, s.img, op, s.calls + 1, s.rst⟩
/-- A policy loaded, plainly. -/
def ldR (s : Sv) (xs : List UInt8) (rep : Reply) (s' : Sv) : Prop :=
  ((decP xs).1 ≠ 0 ∧ rep = repZ (decP xs).1 1 (-1) ∧ s' = s.lowN 1) ∨
  ((decP xs).1 = 0 ∧ ∃ vc p', VerR (decP xs).2 vc p' ∧ ((vc ≠ 0 ∧ rep = repZ vc 1 (-1) ∧ s' = s.lowN 1) ∨
    (vc = 0 ∧ ∃ P, Fst p' P ∧ ((overB P = true ∧ rep = repZ 16 1 (-1) ∧ s' = s.lowN 1) ∨
      (overB P = false ∧ rep = ldP p' ∧ s' = ⟨some (newS p' P p'.pool.length), xs, 1, s.calls + 1, s.rst⟩)))))
/-- Labels of what a decoder has built. -/
def cleanL : Lab → Lab
  | .no => .no
  | .a i j => if i = 6 ∧ j = 3 then .a 6 3 else if i = 6 ∧ j = 1 then .no else .a 9 7
theorem cleanL_cases (l : Lab) : cleanL l = .no ∨ cleanL l = .a 6 3 ∨ cleanL l = .a 9 7 := by
  cases l with
  | no => exact .inl rfl
  | a i j =>
    simp only [cleanL]
    by_cases e : i = 6 ∧ j = 3
    · rw [if_pos e]; exact .inr (.inl rfl)
    · rw [if_neg e]
      by_cases e2 : i = 6 ∧ j = 1
      · rw [if_pos e2]; exact .inl rfl
      · rw [if_neg e2]; exact .inr (.inr rfl)
/-- The labels while a policy is loaded: n is where the decoder began, b5 the program's block. -/
def ldO (O O3 : Own) (n b5 : Nat) : Own := fun k => if k < n then O k else if k = b5 then .a 6 4 else cleanL (O3 k)
theorem pgA_of {O O3 : Own} {V2 V3 V4 : World} {x : GProgram} {p : PP} {b5 : Nat} (hB : Bl0 V2 O3 V3) (h : PgM V2 O3 V3 x p) (hx : V3.Extends V4) (h5 : V3.heap.size ≤ b5) (hb : blk V4 b5 = some (GProgram.enc x)) (hf : free V4 b5 = true) : PgA V2.heap.size (ldO O O3 V2.heap.size b5) V4 b5 (GProgram.enc x) p := by
  have hold : ∀ k, k < V2.heap.size → O3 k = .a 6 2 := fun k hk => hB.fr.keep k hk
  have hge : ∀ k l, O3 k = l → l ≠ .a 6 2 → ¬ k < V2.heap.size := fun k l h1 h2 h3 => h2 (h1 ▸ (hold k h3))
  have hsub : Sub (core O3 V3) (core (ldO O O3 V2.heap.size b5) V4) := Sub.cores fun b C hb9 ho => by
    have h1 := hge b _ ho (fun e => by cases e)
    refine ⟨(hx.blk (blk_lt hb9)).trans hb9, ?_⟩
    unfold ldO
    rw [if_neg h1, if_neg (by have := blk_lt hb9; omega), ho]; rfl
  have hsz := hB.fr.size
  refine ⟨hb, hf, ?_, ⟨rfl, ?_, ?_, ?_, ?_⟩⟩
  · unfold ldO
    rw [if_neg (by omega), if_pos rfl]
  · have e := h.pool.1
    exact ⟨x.pool.a, x.pool.cap, by rw [e]; rfl, by rw [e]; exact h.pool.sub hsub⟩
  · have e := (h.preds.rw PredInfo.length_enc).1.1
    refine ⟨x.preds.a, x.preds.cap, by rw [e]; rfl, ?_⟩
    have h9 := h.preds
    rw [← e] at h9
    refine h9.keep fun k hk ho => ⟨hx.block k hk, ?_⟩
    have h1 := hge k _ ho (fun e => by cases e)
    unfold ldO
    rw [if_neg h1, if_neg (by omega), ho]; rfl
  · obtain ⟨Rs, h1, h2⟩ := h.rules
    have hr := (h1.rw GRule.length_enc).1
    have e : x.rules.len = p.rules.length := by rw [← h2.1]; exact hr.1.symm
    refine ⟨x.rules.a, x.rules.cap, Rs, by rw [← e]; rfl, ?_, h2.sub hsub⟩
    rw [← e]
    refine (hr.grow hx).tocore (fun b C e1 e2 => ?_)
    have ho : O3 b = .a 6 1 := h1.2 b (by rw [e1]; rfl)
    have hb9 := (row_at h1.1 b (by rw [e1]; rfl)).2.1
    have h3 := hge b _ ho (fun e => by cases e)
    unfold ldO
    rw [if_neg h3, if_neg (by omega), ho]; rfl
  · show some (Value.int .i64 x.strata) = _
    rw [h.strata]
/-- As cleanL, with the program's block. -/
def isPd : Lab → Bool
  | .a i j => decide (i = 6 ∧ (j = 3 ∨ j = 4))
  | .no => false
theorem isPd_iff {l : Lab} : isPd l = true ↔ isP l := by
  cases l with
  | no => exact ⟨(fun h => by cases h), fun h => absurd h isP_no⟩
  | a i j =>
    constructor
    · intro h
      have h2 : i = 6 ∧ (j = 3 ∨ j = 4) := of_decide_eq_true h
      obtain ⟨rfl, rfl | rfl⟩ := h2
      · exact .inl rfl
      · exact .inr rfl
    · rintro (e | e)
      · cases e; rfl
      · cases e; rfl
def cleanM : Lab → Lab
  | .no => .no
  | .a i j => if i = 6 ∧ j = 3 then .a 6 3 else if i = 6 ∧ j = 4 then .a 6 4 else .a 9 7
theorem cleanM_cases (l : Lab) : cleanM l = .no ∨ cleanM l = .a 6 3 ∨ cleanM l = .a 6 4 ∨ cleanM l = .a 9 7 := by
  cases l with
  | no => exact .inl rfl
  | a i j =>
    simp only [cleanM]
    by_cases e : i = 6 ∧ j = 3
    · rw [if_pos e]; exact .inr (.inl rfl)
    · rw [if_neg e]
      by_cases e2 : i = 6 ∧ j = 4
      · rw [if_pos e2]; exact .inr (.inr (.inl rfl))
      · rw [if_neg e2]; exact .inr (.inr (.inr rfl))
theorem PgA.relab {B : Nat} {O O' : Own} {V : World} {bp : Nat} {Ce : List Value} {p : PP} (h : PgA B O V bp Ce p) (hn : ∀ k, O k = .no → O' k = .no) (h3 : ∀ k, O k = .a 6 3 → O' k = .a 6 3) (h4 : O' bp = .a 6 4) : PgA B O' V bp Ce p := by
  have hsub : Sub (core O V) (core O' V) := Sub.cores fun b C hb ho => ⟨hb, hn b ho⟩
  obtain ⟨a1, c1, p1, p2⟩ := h.pk.pool
  obtain ⟨a2, c2, q1, q2⟩ := h.pk.preds
  obtain ⟨a3, c3, Rs, r1, r2, r3⟩ := h.pk.rules
  exact ⟨h.cell, h.fre, h4, ⟨h.pk.len, ⟨a1, c1, p1, p2.sub hsub⟩, ⟨a2, c2, q1, q2.keep fun k _ ho => ⟨rfl, (h3 k ho).trans ho.symm⟩⟩, ⟨a3, c3, Rs, r1, r2.sub hsub, r3.sub hsub⟩, h.pk.strata⟩⟩
/-- The program's rows become constants. -/
theorem PgA.const {B : Nat} {O O' : Own} {V : World} {bp : Nat} {Ce : List Value} {p : PP} (h : PgA B O V bp Ce p) (hn : ∀ k, O k = .no → O' k = .no) (h3 : ∀ k, O k = .a 6 3 → O' k = .no) : PgR (core O' V) Ce p := by
  have hsub : Sub (core O V) (core O' V) := Sub.cores fun b C hb ho => ⟨hb, hn b ho⟩
  obtain ⟨a1, c1, p1, p2⟩ := h.pk.pool
  obtain ⟨a2, c2, q1, q2⟩ := h.pk.preds
  obtain ⟨a3, c3, Rs, r1, r2, r3⟩ := h.pk.rules
  have hr := (q2.rw PredInfo.length_enc).1
  exact ⟨⟨a1, _, c1⟩, ⟨a2, _, c2⟩, ⟨a3, _, c3⟩, p1, q1, r1, h.pk.strata, p2.sub hsub, hr.tocore (fun b C e1 _ => h3 b (q2.2 b (by rw [e1]; rfl))), Rs, r2.sub hsub, r3.1, (r3.sub hsub).2⟩
/-- Labels changed where the handler does not look. -/
theorem HC.relabP {O : Own} {W : World} {bs b4 : Nat} {Ox Oy : Own} {V : World} {g : Nat} {s : Sv} {CS : List Value} {ip ia : Option Addr} {iN ic : Nat} (h : HC O W bs b4 Ox V g s CS ip ia iN ic) (hO : ∀ k, Oy k = Ox k ∨ isP (Ox k)) (hW : ∀ k, k < W.heap.size → kept (O k) → ¬ isP (O k)) : HC O W bs b4 Oy V g s CS ip ia iN ic := by
  have hg := h.sv.gl
  have hno : ∀ k, Ox k = .no → Oy k = .no := fun k e => by
    rcases hO k with e2 | e2
    · exact e2.trans e
    · rw [e] at e2; exact absurd e2 isP_no
  refine ⟨⟨h.kp.os, h.kp.tape, h.kp.output, h.kp.size, fun k hk hl => ⟨?_, (h.kp.keep k hk hl).2⟩⟩, ⟨h.sv.cell, h.sv.fre, ?_, h.sv.c, h.sv.im.sub (Sub.cores fun b C hb ho => ⟨hb, hno b ho⟩), hg, h.sv.no, fun t ht => ?_⟩, h.lo, h.rc, h.rf, ?_⟩
  · have e := (h.kp.keep k hk hl).1
    rcases hO k with e2 | e2
    · exact e2.trans e
    · rw [e] at e2; exact absurd e2 (hW k hk hl)
  · rcases hO bs with e2 | e2
    · exact e2.trans h.sv.own
    · rw [h.sv.own] at e2
      rcases e2 with e2 | e2 <;> cases e2
  · obtain ⟨B, bi, e1, e2, e3⟩ := h.sv.ins t ht
    refine ⟨B, bi, e1, e2, e3.relab (fun k l hk hl => ?_) hno⟩
    rcases hO k with e4 | e4
    · exact e4.trans hk
    · rw [hk] at e4
      obtain ⟨j, e5 | e5⟩ := hl <;> (rw [e5] at e4; rcases e4 with e6 | e6 <;> (have := (Lab.a.inj e6).1; omega))
  · rcases hO b4 with e2 | e2
    · exact e2.trans h.ro
    · rw [h.ro] at e2
      rcases e2 with e2 | e2 <;> cases e2
def shp (ps : List PredInfo) : List (Int × Bool) := ps.map fun y => (y.arity, y.base)
theorem set_map {α β : Type} (f : α → β) : ∀ (l : List α) (q : Nat) (y : α), (∀ x, l[q]? = some x → f y = f x) → (l.set q y).map f = l.map f
  | [], _, _, _ => rfl
  | x :: l, 0, y, h => by
    show f y :: l.map f = f x :: l.map f
    rw [h x rfl]
  | x :: l, q + 1, y, h => by
    show f x :: (l.set q y).map f = f x :: l.map f
    rw [set_map f l q y (fun z hz => h z hz)]
theorem shp_stP (ps : List PredInfo) (q : Nat) (v : Int) : shp (stP ps q v) = shp ps := by
  unfold shp stP
  refine set_map _ ps q _ (fun x hx => ?_)
  rw [(stO_at hx).2]
theorem shp_stL (h : Nat) (X : List PredInfo × Bool) (l : PL) : shp (stL h X l).1 = shp X.1 := by
  unfold stL
  by_cases e : stO X.1 h < lea X.1 l
  · rw [if_pos e]; exact shp_stP _ _ _
  · rw [if_neg e]
theorem shp_stLs (h : Nat) : ∀ (b : List PL) (X : List PredInfo × Bool), shp (b.foldl (stL h) X).1 = shp X.1
  | [], _ => rfl
  | l :: b, X => (shp_stLs h b _).trans (shp_stL h X l)
theorem shp_stRd (n : Nat) : ∀ (rs : List PR) (X Y : List PredInfo × Bool), stRd n rs X = some Y → shp Y.1 = shp X.1
  | [], X, Y, h => by cases h; rfl
  | r :: rs, X, Y, h => by
    unfold stRd at h
    by_cases e : (n : Int) ≤ stO (stR X r).1 r.head.pred
    · rw [if_pos e] at h; cases h
    · rw [if_neg e] at h
      exact (shp_stRd n rs _ Y h).trans (shp_stLs _ _ _)
theorem shp_StTo {n : Nat} {rs : List PR} {ps : List PredInfo} {r : Option (List PredInfo)} (h : StTo n rs ps r) : ∀ ps', r = some ps' → shp ps' = shp ps := by
  induction h with
  | bad h => intro ps' e; cases e
  | more h _ ih => intro ps' e; exact (ih ps' e).trans (shp_stRd _ _ _ _ h)
  | done h => intro ps' e; cases e; exact shp_stRd _ _ _ _ h
theorem maxS_bd {m : Int} (hm : 0 ≤ m) : ∀ (ps : List PredInfo) (s0 : Int), 1 ≤ s0 ∧ s0 ≤ m + 1 → IB m ps → 1 ≤ ps.foldl (fun s y => if s < y.stratum + 1 then y.stratum + 1 else s) s0 ∧ ps.foldl (fun s y => if s < y.stratum + 1 then y.stratum + 1 else s) s0 ≤ m + 1
  | [], _, h, _ => h
  | y :: ps, s0, h, hI => by
    refine maxS_bd hm ps _ ?_ (fun z hz => hI z (List.mem_cons_of_mem _ hz))
    have := hI y List.mem_cons_self
    dsimp only
    by_cases e : s0 < y.stratum + 1
    · rw [if_pos e]; omega
    · rw [if_neg e]; exact h
theorem fit_of {p : PP} (hl : limB p = true) {a : PA} (ha : atB p a = true) (hw : AtW a) : Fit a ∧ a.pred < p.preds.length := by
  have hp := atB_pred ha
  obtain ⟨h1, -, -, h4, -⟩ := limB_lens hl
  unfold atB at ha
  rw [Bool.and_eq_true, Bool.and_eq_true] at ha
  obtain ⟨-, ha2, ha3⟩ := ha
  have har : (a.args.length : Int) = (pI p a.pred).arity := of_decide_eq_true ha2
  have h5 := h4 _ (List.mem_of_getElem? (pI_at hp))
  refine ⟨⟨by omega, fun c hc => ?_⟩, hp⟩
  have hm : tA a c ∈ a.args := List.mem_of_getElem? (tA_at hc)
  have ht := List.all_eq_true.1 ha3 _ hm
  refine ⟨hw.2 _ hm, fun e => ?_, fun e => ?_⟩
  · unfold termB at ht
    rw [if_pos e] at ht
    exact of_decide_eq_true ht
  · unfold termB at ht
    rw [if_neg (by rw [e]; decide)] at ht
    have := of_decide_eq_true ht
    omega
/-- What the verifier lets through can be evaluated. -/
theorem verR_ok {p p' : PP} (hd : DecOk p) (h : VerR p 0 p') : PPok p' ∧ p'.pool = p.pool ∧ p'.rules = p.rules ∧ shp p'.preds = shp p.preds ∧ verC p = 0 := by
  rcases h with ⟨h1, h2⟩ | ⟨h1, res, h2, h3⟩
  · exact absurd h2.symm h1
  · rcases h3 with ⟨-, h4⟩ | ⟨ps, rfl, h5, h6, -, rfl⟩
    · cases h4
    · have hs := shp_StTo h2 ps rfl
      have hv : limB p = true ∧ p.rules.all (rlB p) = true := by
        unfold verC at h1
        by_cases e : limB p = false
        · rw [if_pos e] at h1; cases h1
        · rw [if_neg e] at h1
          by_cases e2 : p.rules.all (rlB p) = false
          · rw [if_pos e2] at h1; cases h1
          · exact ⟨by simpa using e, by simpa using e2⟩
      obtain ⟨l1, l2, l3, l4, l5⟩ := limB_lens hv.1
      have hmx := maxS_bd (m := 63) (by omega) ps 1 (by omega) h6
      refine ⟨⟨by show ps.length ≤ 64; omega, l3, l1, ⟨hmx.1, by have := hmx.2; show maxS ps ≤ 65; unfold maxS; omega⟩, fun y hy => ?_, fun r hr => ?_⟩, rfl, rfl, hs, h1⟩
      · obtain ⟨q, hq⟩ := List.getElem?_of_mem hy
        have hq2 : (shp ps)[q]? = some (y.arity, y.base) := by unfold shp; rw [List.getElem?_map, hq]; rfl
        rw [hs] at hq2
        unfold shp at hq2
        rw [List.getElem?_map] at hq2
        cases hz : p.preds[q]? with
        | none => rw [hz] at hq2; cases hq2
        | some z =>
          rw [hz] at hq2
          have e9 : (z.arity, z.base) = (y.arity, y.base) := Option.some.inj hq2
          have e10 : z.arity = y.arity := congrArg Prod.fst e9
          have h7 := (hd.preds.2 z (List.mem_of_getElem? hz)).2
          have h8 := l4 z (List.mem_of_getElem? hz)
          omega
      · have hb := rlB_ok (List.all_eq_true.1 hv.2 r hr)
        have hw := hd.rules.2 r hr
        obtain ⟨f1, f2⟩ := fit_of hv.1 hb.1 hw.1
        refine ⟨⟨f1, by have := hw.2.1; omega, fun z hz => ?_⟩, by show r.head.pred < ps.length; omega⟩
        obtain ⟨g1, g2⟩ := fit_of hv.1 (hb.2 z hz) (hw.2.2 z hz)
        exact ⟨g1, by show z.atom.pred < ps.length; omega⟩
theorem notP_low {O : Own} (hlow : Low O) (k : Nat) : ¬ isP (O k) := fun h => by
  rcases h with e | e <;> (have := hlow k _ _ e; omega)
theorem isP_99 : ¬ isP (.a 9 9) := fun h => by rcases h with e | e <;> cases e
theorem isP_00 : ¬ isP (.a 0 0) := fun h => by rcases h with e | e <;> cases e
theorem isP_I {g : Nat} (hg : g < 2) (l : Lab) (h : isI g l) : ¬ isP l := fun h2 => by
  obtain ⟨j, e | e⟩ := h <;> (rw [e] at h2; rcases h2 with e2 | e2 <;> (have := (Lab.a.inj e2).1; omega))
set_option maxRecDepth 100000 in
theorem frame52d (f : Nat → Value) : frameN 52 f = #[f 0, f 1, f 2, f 3, f 4, f 5, f 6, f 7, f 8, f 9, f 10, f 11, f 12, f 13, f 14, f 15, f 16, f 17, f 18, f 19, f 20, f 21, f 22, f 23, f 24, f 25, f 26, f 27, f 28, f 29, f 30, f 31, f 32, f 33, f 34, f 35, f 36, f 37, f 38, f 39, f 40, f 41, f 42, f 43, f 44, f 45, f 46, f 47, f 48, f 49, f 50, f 51] := by kernel_rfl
set_option maxRecDepth 40000 in
set_option maxHeartbeats 4000000 in
theorem hload_any {O : Own} {W : World} {bs g : Nat} {s : Sv} {CS : List Value} {ip ia : Option Addr} {iN ic : Nat} (h : SvM O W bs g s CS ip ia iN ic) (hlow : Low O) (hcl : 0 ≤ s.calls ∧ s.calls ≤ 100) (hfree : ∀ k, ¬ isI (1 - g) (O k) ∧ O k ≠ .a 0 8) (a : Option Addr) (n c : Nat) (hn : n ≤ 65536) (hnc : n ≤ c) (hc : c ≤ 9223372036854775807) (xs : List UInt8) (hX : Bs (core O W) a n xs) : Calls Tryz.prog 99 #[.pointer (some ⟨bs, 0, none⟩), .slice a n c] W (HdG O W bs (PZ (ldR s xs))) := by
  obtain ⟨Q, hQ⟩ : ∃ Q, Q = HdG O W bs (PZ (ldR s xs)) := ⟨_, rfl⟩
  rw [← hQ]
  have HQ := hid_of hQ
  have HM := hid_of h
  have HX := hid_of hX
  have HLOW := hid_of hlow
  have HFREE := hid_of hfree
  have hgl := h.gl
  clear hQ h hX hlow hfree
  go_enter Tryz.func99, Tryz.ntmps99
  go_upto_region 1 with fail
  refine wp_world (fun V => W.Extends V ∧ blk V W.heap.size = some Reply.zero.enc ∧ free V W.heap.size = true ∧ V.heap.size = W.heap.size + 1) ⟨extends_alloc (ext_Ext (Ext.refl _)) _, ?_, ?_, ?_⟩ ?_
  · rw [blk_alloc, if_pos rfl]; try rfl
  · rw [free_alloc, if_pos rfl]
  · rw [World.size_alloc]
  rintro W1 ⟨hx1, hb4, hf4, hsz1⟩
  obtain ⟨O1, hO1⟩ : ∃ O1, O1 = lab O W.heap.size (.a 9 9) := ⟨_, rfl⟩
  have hF1 : Fr (fun _ => False) O W O1 W1 := by rw [hO1]; exact ⟨hx1.os, hx1.tape, hx1.output, hx1.size, fun k hk => lab_lt hk, fun k hk _ => hx1.block k hk⟩
  obtain ⟨b4, e4⟩ : ∃ b4, b4 = W.heap.size := ⟨_, rfl⟩
  rw [← e4] at hb4 hf4 ⊢
  have ho4 : O1 b4 = .a 9 9 := by rw [hO1, e4]; exact lab_ge (by omega)
  have hH1 : HC O W bs b4 O1 W1 g s CS ip ia iN ic := ⟨Kp.fr hF1 (fun _ _ e => e), HM.out.frF hF1, by omega, hb4, hf4, ho4⟩
  have hfr1 : ∀ k, ¬ isI (1 - g) (O1 k) ∧ O1 k ≠ .a 0 8 := fun k => by
    rw [hO1]
    by_cases hk : k < W.heap.size
    · rw [lab_lt hk]; exact HFREE.out k
    · rw [lab_ge (by omega)]; exact ⟨isI_99 (by omega), fun e => by cases e⟩
  have hP1 : ∀ k, ¬ isP (O1 k) := fun k => by
    rw [hO1]
    by_cases hk : k < W.heap.size
    · rw [lab_lt hk]; exact notP_low HLOW.out k
    · rw [lab_ge (by omega)]; exact isP_99
  have hlow := lower_any hH1.sv.cell hH1.sv.fre hH1.sv.c.len hH1.sv.c.c3 hcl.1 (by omega) 1
  have HH1 := hid_of hH1
  have HF1 := hid_of hF1
  have HFR1 := hid_of hfr1
  have HP1 := hid_of hP1
  clear hx1 hsz1 hO1 hF1 e4 ho4 hH1 hb4 hf4 hfr1 hP1 HFREE
  go_wp2_with fail
  refine hlow.mono ?_
  rintro e V2 ⟨rfl, hOn⟩
  dsimp only
  obtain ⟨hFl, hH2⟩ := HH1.out.low 1 hOn
  obtain ⟨CS2, hCS2⟩ : ∃ CS2, CS2 = splice (splice CS 2 [.int .i64 1]) 3 [.int .i64 (s.calls + 1)] := ⟨_, rfl⟩
  rw [← hCS2] at hH2
  have HH2 : Hid (HC O W bs b4 O1 V2 g (s.lowN 1) CS2 ip ia iN ic) := hH2
  have hXc : Bs (core O1 V2) a n xs := (HX.out.sub (Sub.ext (core_fr HF1.out (fun e => e)))).sub (Sub.ext (core_fr hFl (isV_no g)))
  have HXC := hid_of hXc
  have hbd := bdec_any V2 a n c hn hnc hc xs (hXc.sub (Sub.core _ _))
  obtain ⟨dc, hdc⟩ : ∃ dc, dc = (decP xs).1 := ⟨_, rfl⟩
  obtain ⟨p, hp⟩ : ∃ p, p = (decP xs).2 := ⟨_, rfl⟩
  have HDC := hid_of hdc
  have HPP := hid_of hp
  clear hlow hOn hFl hH2 hCS2 HH1 HF1 hXc HX hdc hp
  go_wp2_with fail
  refine hbd.mono ?_
  rintro e V3 ⟨x, rfl, O3, hBl, hPg⟩
  dsimp only
  rw [← HDC.out]
  have xl := GProgram.length_enc x
  have xo := GProgram.ok_enc x
  have xs' := GProgram.all_set GProgram.zero x
  have HBL := hid_of hBl
  have HPG : Hid (dc = 0 → PgM V2 O3 V3 x p) := fun e => by rw [HPP.out]; exact hPg (by rw [← HDC.out]; exact e)
  clear hbd hBl hPg
  go_upto_region 3 with fail
  refine wp_world (fun V => V3.Extends V ∧ blk V V3.heap.size = some (GProgram.enc x) ∧ free V V3.heap.size = true ∧ V.heap.size = V3.heap.size + 1) ⟨?_, ?_, ?_, ?_⟩ ?_
  · exact extends_alloc (ext_Ext (Ext.refl _)) _
  · rw [blk_alloc, if_pos rfl]
  · rw [free_alloc, if_pos rfl]
  · rw [World.size_alloc]
  rintro V4 ⟨hx4, hb5, hf5, hsz4⟩
  obtain ⟨b5, e5⟩ : ∃ b5, b5 = V3.heap.size := ⟨_, rfl⟩
  rw [← e5] at hb5 hf5 ⊢
  have hx24 : V2.Extends V4 := HBL.out.ext.trans hx4
  by_cases hd0 : dc = 0
  rotate_left 1
  · have HH4 := hid_of (HH2.out.ext hx24)
    clear hb5 hf5 hx4 hx24 hsz4 e5 xl xo xs'
    have hrf := refuse_any V4 1 dc
    have HRP : Hid (∀ V, V4.Extends V → Q (.returned (.agg (Reply.enc (repZ dc 1 (-1))).toArray)) (put V b4 (Reply.enc (repZ dc 1 (-1))))) := fun V hx => by
      rw [HQ.out]
      exact (HH4.out.ext hx).finG HLOW.out (⟨_, .inl ⟨by rw [← HDC.out]; exact hd0, by rw [← HDC.out], rfl⟩, rfl⟩) ((bare_Z _ _ _).c _)
    have HB4 : Hid (blk V4 b4 = some Reply.zero.enc ∧ free V4 b4 = true) := ⟨HH4.out.rc, HH4.out.rf⟩
    have rl := Reply.length_enc (repZ dc 1 (-1))
    have ro := Reply.ok_enc (repZ dc 1 (-1))
    have rs := Reply.all_set Reply.zero (repZ dc 1 (-1))
    obtain ⟨RE, hRE⟩ : ∃ RE, RE = Reply.enc (repZ dc 1 (-1)) := ⟨_, rfl⟩
    rw [← hRE] at hrf HRP rl ro rs
    clear hRE
    have hcb : (dc != 0) = true := by simp [hd0]
    clear hd0
    go_wp2_with fail
    refine hrf.mono ?_
    rintro e Vr ⟨rfl, hxr⟩
    have hb4 := (hxr.blk (blk_lt HB4.out.1)).trans HB4.out.1
    have hf4 := (free_of_heap (hxr.block b4 (blk_lt HB4.out.1))).trans HB4.out.2
    have HP := hid_of (HRP.out Vr hxr)
    clear hrf hxr HRP
    dsimp only
    go_wp2_with fail
    refine ret_cell (C := RE) rfl rfl ?_ (by kernel_rfl) (by rw [rl]; kernel_rfl) rfl HP.out
    first | (rw [blk_put, if_pos rfl, hb4]; rfl) | (simp only [blk_put, if_true, hb4, Option.map_some]; try rfl)
  have hPA : PgA V2.heap.size (ldO O1 O3 V2.heap.size b5) V4 b5 (GProgram.enc x) p := pgA_of HBL.out (HPG.out hd0) hx4 (Nat.le_of_eq e5.symm) hb5 hf5
  have hdec : DecOk p := by rw [HPP.out]; exact decP_ok (by rw [← HDC.out]; exact hd0)
  obtain ⟨O4, hO4⟩ : ∃ O4, O4 = ldO O1 O3 V2.heap.size b5 := ⟨_, rfl⟩
  rw [← hO4] at hPA
  have hF4 : Fr (fun _ => False) O1 V2 O4 V4 := ⟨hx24.os, hx24.tape, hx24.output, hx24.size, fun k hk => by rw [hO4]; unfold ldO; rw [if_pos hk], fun k hk _ => hx24.block k hk⟩
  have hl4 : ∀ k, V2.heap.size ≤ k → O4 k = .a 6 4 ∨ O4 k = .no ∨ O4 k = .a 6 3 ∨ O4 k = .a 9 7 := fun k hk => by
    rw [hO4]; unfold ldO
    rw [if_neg (by omega)]
    by_cases e : k = b5
    · rw [if_pos e]; exact .inl rfl
    · rw [if_neg e]; exact .inr (cleanL_cases _)
  have HH4 := hid_of (HH2.out.fr (hF4.mono (fun _ e => e.elim)) (HH2.out.sv.frF hF4))
  have HX4 : Hid (Bs (core O4 V4) a n xs) := HXC.out.sub (Sub.ext (core_fr hF4 (fun e => e)))
  have HL4 : Hid (∀ k, O4 k = O1 k ∨ O4 k = .a 6 4 ∨ O4 k = .no ∨ O4 k = .a 6 3 ∨ O4 k = .a 9 7) := fun k => by
    by_cases hk : k < V2.heap.size
    · exact .inl (hF4.keep k hk)
    · exact .inr (hl4 k (by omega))
  have HPA := hid_of hPA
  have HDEC := hid_of hdec
  have hve := verify_any hPA (fun r hr => (hdec.rules.2 r hr).lens) (fun y hy => (hdec.preds.2 y hy).1)
  have HVE := hid_of hve
  clear hPA hdec hO4 hF4 hl4 hx4 hx24 hsz4 e5 hb5 hf5 xl xo xs' HH2 HXC HPG hve
  subst hd0
  go_wp2_with fail
  refine HVE.out.mono ?_
  rintro e V5 ⟨vc, p', O5, rfl, hVR, hF5, hPA5⟩
  dsimp only
  obtain ⟨O6, hO6⟩ : ∃ O6 : Own, O6 = fun k => if k < V4.heap.size then O4 k else cleanM (O5 k) := ⟨_, rfl⟩
  have hF6 : Fr isP O4 V4 O6 V5 := ⟨hF5.os, hF5.tape, hF5.output, hF5.size, fun k hk => by rw [hO6]; exact if_pos hk, hF5.block⟩
  have HH6 := hid_of (HH4.out.frL hF6 isP_99 isP_00 isP_no (fun l hl => isP_I hgl l hl) (fun k _ _ => notP_low HLOW.out k))
  have HX6 : Hid (Bs (core O6 V5) a n xs) := HX4.out.sub (Sub.ext (core_fr hF6 isP_no))
  have HL6 : Hid (∀ k, O6 k = O1 k ∨ O6 k = .a 6 4 ∨ O6 k = .no ∨ O6 k = .a 6 3 ∨ O6 k = .a 9 7) := fun k => by
    by_cases hk : k < V4.heap.size
    · have e : O6 k = O4 k := hF6.keep k hk
      rw [e]; exact HL4.out k
    · have e : O6 k = cleanM (O5 k) := by rw [hO6]; exact if_neg hk
      rw [e]
      rcases cleanM_cases (O5 k) with h | h | h | h
      · exact .inr (.inr (.inl h))
      · exact .inr (.inr (.inr (.inl h)))
      · exact .inr (.inl h)
      · exact .inr (.inr (.inr (.inr h)))
  have HPA6 : Hid (vc = 0 → ∃ Ce, PgA V2.heap.size O6 V5 b5 Ce p') := fun e => by
    obtain ⟨Ce, h9⟩ := hPA5 e
    have hlb : b5 < V4.heap.size := blk_lt HPA.out.cell
    refine ⟨Ce, h9.relab (fun k hk => ?_) (fun k hk => ?_) ?_⟩
    · by_cases hk4 : k < V4.heap.size
      · rw [hO6]; show (if _ then _ else _) = _; rw [if_pos hk4, ← hF5.keep k hk4]; exact hk
      · rw [hO6]; show (if _ then _ else _) = _; rw [if_neg hk4, hk]; rfl
    · by_cases hk4 : k < V4.heap.size
      · rw [hO6]; show (if _ then _ else _) = _; rw [if_pos hk4, ← hF5.keep k hk4]; exact hk
      · rw [hO6]; show (if _ then _ else _) = _; rw [if_neg hk4, hk]; rfl
    · rw [hO6]; show (if _ then _ else _) = _; rw [if_pos hlb]; exact HPA.out.own
  have HVR : Hid (VerR (decP xs).2 vc p') := by rw [HPP.out] at hVR; exact hVR
  clear HVE hF5 hPA5 hVR hO6 hF6 HH4 HX4 HL4
  by_cases hv0 : vc = 0
  rotate_left 1
  · have hrf := refuse_any V5 1 vc
    have HRP : Hid (∀ V, V5.Extends V → Q (.returned (.agg (Reply.enc (repZ vc 1 (-1))).toArray)) (put V b4 (Reply.enc (repZ vc 1 (-1))))) := fun V hx => by
      rw [HQ.out]
      exact (HH6.out.ext hx).finG HLOW.out (⟨_, .inr ⟨HDC.out.symm, vc, p', HVR.out, .inl ⟨hv0, rfl, rfl⟩⟩, rfl⟩) ((bare_Z _ _ _).c _)
    have HB4 : Hid (blk V5 b4 = some Reply.zero.enc ∧ free V5 b4 = true) := ⟨HH6.out.rc, HH6.out.rf⟩
    have rl := Reply.length_enc (repZ vc 1 (-1))
    have ro := Reply.ok_enc (repZ vc 1 (-1))
    have rs := Reply.all_set Reply.zero (repZ vc 1 (-1))
    obtain ⟨RE, hRE⟩ : ∃ RE, RE = Reply.enc (repZ vc 1 (-1)) := ⟨_, rfl⟩
    rw [← hRE] at hrf HRP rl ro rs
    clear hRE
    have hcb : (vc != 0) = true := by simp [hv0]
    clear hv0
    go_wp2_with fail
    refine hrf.mono ?_
    rintro e Vr ⟨rfl, hxr⟩
    have hb4 := (hxr.blk (blk_lt HB4.out.1)).trans HB4.out.1
    have hf4 := (free_of_heap (hxr.block b4 (blk_lt HB4.out.1))).trans HB4.out.2
    have HP := hid_of (HRP.out Vr hxr)
    clear hrf hxr HRP
    dsimp only
    go_wp2_with fail
    refine ret_cell (C := RE) rfl rfl ?_ (by kernel_rfl) (by rw [rl]; kernel_rfl) rfl HP.out
    first | (rw [blk_put, if_pos rfl, hb4]; rfl) | (simp only [blk_put, if_true, hb4, Option.map_some]; try rfl)
  subst hv0
  obtain ⟨Ce, hPA6⟩ := HPA6.out rfl
  have hvok := verR_ok (by rw [← HPP.out]; exact HDEC.out) HVR.out
  have HVOK := hid_of hvok
  obtain ⟨O7, hO7⟩ : ∃ O7 : Own, O7 = fun k => if isPd (O6 k) then .no else O6 k := ⟨_, rfl⟩
  have h7 : ∀ k, O7 k = O6 k ∨ isP (O6 k) := fun k => by
    rw [hO7]
    by_cases e : isPd (O6 k) = true
    · exact .inr (isPd_iff.1 e)
    · exact .inl (if_neg e)
  have h7b : ∀ k, isP (O6 k) → O7 k = .no := fun k hk => by rw [hO7]; exact if_pos (isPd_iff.2 hk)
  have h7n : ∀ k, O6 k = .no → O7 k = .no := fun k hk => by
    rcases h7 k with e | e
    · exact e.trans hk
    · exact h7b k e
  have HH7 := hid_of (HH6.out.relabP h7 (fun k _ _ => notP_low HLOW.out k))
  have HX7 : Hid (Bs (core O7 V5) a n xs) := HX6.out.sub (Sub.cores fun b C hb ho => ⟨hb, h7n b ho⟩)
  have hpg := hPA6.const h7n (fun k hk => h7b k (.inl hk))
  obtain ⟨x', hx1', hx2'⟩ := seg4_of (by rw [hPA6.pk.len]; omega) hpg
  have hfr7 : ∀ k, k < V5.heap.size → ¬ isI (1 - g) (O7 k) := fun k _ => by
    rcases h7 k with e | e
    · rw [e]
      rcases HL6.out k with h | h | h | h | h
      · rw [h]; exact (HFR1.out k).1
      · rw [h]; rintro ⟨j, e | e⟩ <;> (have := (Lab.a.inj e).1; omega)
      · rw [h]; exact isI_no _
      · rw [h]; rintro ⟨j, e | e⟩ <;> (have := (Lab.a.inj e).1; omega)
      · rw [h]; rintro ⟨j, e | e⟩ <;> (have := (Lab.a.inj e).1; omega)
    · rw [h7b k e]; exact isI_no _
  have hni := newInst_any (O := O7) (W := V5) (1 - g) x' p' hx2' hvok.1 (by rw [hvok.2.1, ← HPP.out]; exact HDEC.out.pool.1) hfr7
  have hb5 := hPA6.cell
  have cel : 0 + 4 ≤ Ce.length := by rw [hPA6.pk.len]; omega
  obtain ⟨da, dc', hpc1, -⟩ := hPA6.pk.preds
  obtain ⟨ra, rc', Rs', hpc2, -, -⟩ := hPA6.pk.rules
  have ce2 : 2 < Ce.length := by rw [hPA6.pk.len]; omega
  have ce1 : 1 < Ce.length := by omega
  have HB5 := hid_of hb5
  have HB5S : Hid (O7 b5 = .no) := h7b b5 (.inr hPA6.own)
  clear hPA6 hvok hO7 h7 h7b h7n hpg hx2' hfr7 HH6 HX6 HL6 HPA6 HPA HFR1
  go_wp2_with fail
  refine hni.mono ?_
  rintro e V6 ⟨P, hFst, hx6, hres⟩
  have HFST := hid_of hFst
  rcases hres with ⟨hov, rfl⟩ | ⟨hov, bi, O8, rfl, hF8, hI8⟩
  · dsimp only
    have HH8 := hid_of (HH7.out.ext hx6)
    clear hni hFst hx6 hb5
    have hrf := refuse_any V6 1 16
    have HRP : Hid (∀ V, V6.Extends V → Q (.returned (.agg (Reply.enc (repZ 16 1 (-1))).toArray)) (put V b4 (Reply.enc (repZ 16 1 (-1))))) := fun V hx => by
      rw [HQ.out]
      exact (HH8.out.ext hx).finG HLOW.out (⟨_, .inr ⟨HDC.out.symm, 0, p', HVR.out, .inr ⟨rfl, P, HFST.out, .inl ⟨hov, rfl, rfl⟩⟩⟩, rfl⟩) ((bare_Z _ _ _).c _)
    have HB4 : Hid (blk V6 b4 = some Reply.zero.enc ∧ free V6 b4 = true) := ⟨HH8.out.rc, HH8.out.rf⟩
    have rl := Reply.length_enc (repZ 16 1 (-1))
    have ro := Reply.ok_enc (repZ 16 1 (-1))
    have rs := Reply.all_set Reply.zero (repZ 16 1 (-1))
    obtain ⟨RE, hRE⟩ : ∃ RE, RE = Reply.enc (repZ 16 1 (-1)) := ⟨_, rfl⟩
    rw [← hRE] at hrf HRP rl ro rs
    clear hRE
    go_wp2_with fail
    refine hrf.mono ?_
    rintro e Vr ⟨rfl, hxr⟩
    have hb4 := (hxr.blk (blk_lt HB4.out.1)).trans HB4.out.1
    have hf4 := (free_of_heap (hxr.block b4 (blk_lt HB4.out.1))).trans HB4.out.2
    have HP := hid_of (HRP.out Vr hxr)
    clear hrf hxr HRP
    dsimp only
    go_wp2_with fail
    refine ret_cell (C := RE) rfl rfl ?_ (by kernel_rfl) (by rw [rl]; kernel_rfl) rfl HP.out
    first | (rw [blk_put, if_pos rfl, hb4]; rfl) | (simp only [blk_put, if_true, hb4, Option.map_some]; try rfl)
  dsimp only
  have hF8V : Fr (isV g) O7 V5 O8 V6 := hF8.mono (fun _ e => e.elim)
  have HH8 := hid_of (HH7.out.fr hF8V (HH7.out.sv.frF hF8))
  have HX8 : Hid (Bs (core O8 V6) a n xs) := HX7.out.sub (Sub.ext (core_fr hF8 (fun e => e)))
  have hbs := HH8.out.sv.cell
  have hfs := HH8.out.sv.fre
  have csl := HH8.out.sv.c.len
  have l0 : 0 < CS2.length := by omega
  have l0' : 0 + 1 ≤ CS2.length := by omega
  have m1 : (splice CS2 0 [.pointer (some ⟨bi, 0, none⟩)]).length = CS2.length := length_splice1 l0
  obtain ⟨C1, hC1⟩ : ∃ C1, C1 = splice CS2 0 [.pointer (some ⟨bi, 0, none⟩)] := ⟨_, rfl⟩
  rw [← hC1] at m1
  have hsp : splice CS2 0 [.pointer (some ⟨bi, 0, none⟩)] = C1 := hC1.symm
  have k1 : 1 < C1.length := by omega
  have k1' : 1 + 1 ≤ C1.length := by omega
  obtain ⟨C2, hC2⟩ : ∃ C2, C2 = splice C1 1 [.slice a n c] := ⟨_, rfl⟩
  have hsp2 : splice C1 1 [.slice a n c] = C2 := hC2.symm
  have hnC : ∀ j, nth C2 j = if j = 1 then some (.slice a n c) else if j = 0 then some (.pointer (some ⟨bi, 0, none⟩)) else nth CS2 j := fun j => by
    rw [hC2, splice_nth k1]
    by_cases e : j = 1
    · rw [if_pos e, if_pos e]
    · rw [if_neg e, if_neg e, hC1, splice_nth l0]
  have HH9 : Hid (HC O W bs b4 O8 (put V6 bs C2) (1 - g) ⟨some (newS p' P p'.pool.length), xs, 1, s.calls + 1, s.rst⟩ C2 (some ⟨bi, 0, none⟩) a n c) := by
    have hFp : Fr (fun l => l = .a 0 0) O8 V6 O8 (put V6 bs C2) := (Fr.refl _ _ _).put (L := fun l => l = .a 0 0) HH8.out.sv.own _
    have nb4 : ¬ (fun l => l = Lab.a 0 0) (O8 b4) := by rw [HH8.out.ro]; exact fun e => by cases e
    have hcs := HH8.out.sv.c
    refine ⟨HH8.out.kp.trans (Kp.fr hFp (fun l hl e => kept_0 hl e)), ⟨by rw [blk_put, if_pos rfl, hbs]; rfl, by rw [free_put]; exact hfs, HH8.out.sv.own, ⟨by rw [hC2, length_splice1 k1]; omega, by rw [hnC, if_neg (by omega), if_pos rfl], by rw [hnC, if_pos rfl], by rw [hnC, if_neg (by omega), if_neg (by omega)]; exact hcs.c2, by rw [hnC, if_neg (by omega), if_neg (by omega)]; exact hcs.c3, fun k h1 h2 => by rw [hnC, if_neg (by omega), if_neg (by omega)]; exact hcs.rs k h1 h2⟩, HX8.out.sub (Sub.ext (core_fr hFp (fun e => by cases e))), by omega, fun e => (nomatch e), fun t' e => ?_⟩, HH8.out.lo, hFp.blk HH8.out.rc nb4, hFp.free HH8.out.rc HH8.out.rf nb4, HH8.out.ro⟩
    have e' : newS p' P p'.pool.length = t' := Option.some.inj e
    rw [← e']
    refine ⟨V5.heap.size, bi, rfl, by rw [size_put]; exact hF8.size, hI8.fr hFp (fun l hl e => ?_) (fun e => by cases e)⟩
    obtain ⟨j, e2 | e2⟩ := hl <;> (rw [e2] at e; have := (Lab.a.inj e).1; omega)
  have n5s : b5 ≠ bs := fun e => by
    have h1 := HH7.out.sv.own
    have h2 := HB5S.out
    rw [e, h1] at h2
    cases h2
  have hb5' : blk V6 b5 = some Ce := (hx6.blk (blk_lt HB5.out)).trans HB5.out
  have hac := accept_any (put V6 bs C2) 1
  obtain ⟨RE, hRE⟩ : ∃ RE, RE = Reply.enc (repZ 0 1 (-1)) := ⟨_, rfl⟩
  rw [← hRE] at hac
  have rl : RE.length = 11 := by rw [hRE]; exact Reply.length_enc _
  have ro : okCells 11 RE = true := by rw [hRE]; exact Reply.ok_enc _
  have rs : splice Reply.zero.enc 0 RE = RE := by rw [hRE]; exact Reply.all_set _ _
  obtain ⟨np, hnp⟩ : ∃ np, np = p'.preds.length := ⟨_, rfl⟩
  obtain ⟨nr, hnr⟩ : ∃ nr, nr = p'.rules.length := ⟨_, rfl⟩
  rw [← hnp] at hpc1
  rw [← hnr] at hpc2
  obtain ⟨RE1, hRE1⟩ : ∃ RE1, RE1 = splice RE 4 [.int .i64 (np : Int)] := ⟨_, rfl⟩
  obtain ⟨RE2, hRE2⟩ : ∃ RE2, RE2 = splice RE1 5 [.int .i64 (nr : Int)] := ⟨_, rfl⟩
  have r1l : RE1.length = 11 := by rw [hRE1, length_splice1 (by omega)]; exact rl
  have r2l : RE2.length = 11 := by rw [hRE2, length_splice1 (by omega)]; exact r1l
  have hR2 : RE2 = Reply.enc (ldP p') := by
    rw [hRE2, hRE1, hRE, hnp, hnr]; rfl
  have r2o : okCells 11 RE2 = true := by rw [hR2]; exact Reply.ok_enc _
  have r2a : seg RE2 0 11 = RE2 := seg_all _ _ r2l
  have r2s : splice Reply.zero.enc 0 RE2 = RE2 := by rw [hR2]; exact Reply.all_set _ _
  have HR2 := hid_of hR2
  have re1 : splice RE 4 [.int .i64 (np : Int)] = RE1 := hRE1.symm
  have re2 : splice RE1 5 [.int .i64 (nr : Int)] = RE2 := hRE2.symm
  have r4 : 4 + 1 ≤ RE.length := by omega
  have r5 : 5 + 1 ≤ RE1.length := by omega
  have HOV := hid_of hov
  have n54 : b5 ≠ b4 := fun e => by
    have h1 := HH7.out.ro
    have h2 := HB5S.out
    rw [e, h1] at h2
    cases h2
  clear hni hFst hx6 hF8 hI8 hF8V HH7 HH8 HX7 HX8 hC1 hC2 hnC hb5 hRE hRE1 hRE2 hnp hnr hR2 hov csl
  go_wp2_with fail
  refine hac.mono ?_
  rintro e V9 ⟨rfl, hx9⟩
  dsimp only
  go_upto_region 13 with fail
  refine wp_world (fun V => (put V6 bs C2).Extends V ∧ blk V V9.heap.size = some RE ∧ free V V9.heap.size = true) ⟨?_, ?_, ?_⟩ ?_
  · exact hx9.trans (extends_alloc (ext_Ext (Ext.refl _)) _)
  · rw [blk_alloc, if_pos rfl]
  · rw [free_alloc, if_pos rfl]
  rintro V10 ⟨hx10, hb8, hf8⟩
  obtain ⟨b8, e8⟩ : ∃ b8, b8 = V9.heap.size := ⟨_, rfl⟩
  rw [← e8] at hb8 hf8 ⊢
  have hw8 : (put V6 bs C2).heap.size ≤ b8 := by rw [e8]; exact hx9.size
  have hbp : blk (put V6 bs C2) b5 = some Ce := by rw [blk_put, if_neg n5s]; exact hb5'
  have hb5V : blk V10 b5 = some Ce := (hx10.blk (blk_lt hbp)).trans hbp
  have hb4V : blk V10 b4 = some Reply.zero.enc := (hx10.blk (blk_lt HH9.out.rc)).trans HH9.out.rc
  have hf4V : free V10 b4 = true := (free_of_heap (hx10.block b4 (blk_lt HH9.out.rc))).trans HH9.out.rf
  have n85 : ¬ b8 = b5 := fun e => by have := blk_lt hbp; omega
  have n84 : ¬ b8 = b4 := fun e => by have := blk_lt HH9.out.rc; omega
  have HX10 := hid_of hx10
  have HW8 := hid_of hw8
  have hSd : blk V10.drew b5 = some Ce := hb5V
  have HB8 : Hid (blk V10 b8 = some RE ∧ free V10 b8 = true) := ⟨hb8, hf8⟩
  have HB4 : Hid (blk V10 b4 = some Reply.zero.enc ∧ free V10 b4 = true) := ⟨hb4V, hf4V⟩
  clear hac hx9 e8 hx10 hw8 hbp hbs hfs hb5' hb4V hf4V rl ro rs l0 l0' m1 hsp k1 k1' hsp2
  refine wp_region_held_drew (S := fun W' => blk W' b5 = some Ce) (by kernel_rfl) hSd (fun hHeld => ?_)
  refine wpAnyH_take (i := 0) (oi := ⟨_, _, _, _, _, _⟩) (v := ?_) rfl (by kernel_rfl) (by kernel_rfl) (by kernel_rfl) (fun _ _ _ h => h) (Or.inl ⟨by rfl, ?_⟩) (by assumption) ?_
  rotate_left 1
  · intro W' hSw
    go_simp
    try with_reducible rfl
  try simp only [Act.put, List.setIfInBounds_toArray, List.set_cons_zero, List.set_cons_succ]
  refine wpAnyH_take (i := 1) (oi := ⟨_, _, _, _, _, _⟩) (v := ?_) rfl (by kernel_rfl) (by kernel_rfl) (by kernel_rfl) (fun _ _ _ h => h) (Or.inl ⟨by rfl, ?_⟩) (by assumption) ?_
  rotate_left 1
  · intro W' hSw
    go_simp
    try with_reducible rfl
  try simp only [Act.put, List.setIfInBounds_toArray, List.set_cons_zero, List.set_cons_succ]
  refine wpAnyH_take (i := 2) (oi := ⟨_, _, _, _, _, _⟩) (v := ?_) rfl (by kernel_rfl) (by kernel_rfl) (by kernel_rfl) (fun _ _ _ h => h) (Or.inl ⟨by rfl, ?_⟩) (by assumption) ?_
  rotate_left 1
  · intro W' hSw
    go_simp
    try with_reducible rfl
  try simp only [Act.put, List.setIfInBounds_toArray, List.set_cons_zero, List.set_cons_succ]
  refine wpAnyH_take (i := 3) (oi := ⟨_, _, _, _, _, _⟩) (v := ?_) rfl (by kernel_rfl) (by kernel_rfl) (by kernel_rfl) (fun _ _ _ h => h) (Or.inl ⟨by rfl, ?_⟩) (by assumption) ?_
  rotate_left 1
  · intro W' hSw
    go_simp
    try with_reducible rfl
  try simp only [Act.put, List.setIfInBounds_toArray, List.set_cons_zero, List.set_cons_succ]
  refine wpAnyH_take (i := 4) (oi := ⟨_, _, _, _, _, _⟩) (v := ?_) rfl (by kernel_rfl) (by kernel_rfl) (by kernel_rfl) (fun _ _ _ h => h) (Or.inl ⟨by rfl, ?_⟩) (by assumption) ?_
  rotate_left 1
  · intro W' hSw
    go_simp
    try with_reducible rfl
  try simp only [Act.put, List.setIfInBounds_toArray, List.set_cons_zero, List.set_cons_succ]
  refine wpAnyH_take (i := 5) (oi := ⟨_, _, _, _, _, _⟩) (v := ?_) rfl (by kernel_rfl) (by kernel_rfl) (by kernel_rfl) (fun _ _ _ h => h) (Or.inl ⟨by rfl, ?_⟩) (by assumption) ?_
  rotate_left 1
  · intro W' hSw
    go_simp
    try with_reducible rfl
  try simp only [Act.put, List.setIfInBounds_toArray, List.set_cons_zero, List.set_cons_succ]
  refine wpAnyH_take (i := 6) (oi := ⟨_, _, _, _, _, _⟩) (v := ?_) rfl (by kernel_rfl) (by kernel_rfl) (by kernel_rfl) (fun _ _ _ h => h) (Or.inl ⟨by rfl, ?_⟩) (by assumption) ?_
  rotate_left 1
  · intro W' hSw
    go_simp
    try with_reducible rfl
  try simp only [Act.put, List.setIfInBounds_toArray, List.set_cons_zero, List.set_cons_succ]
  have hSP : ∀ C, blk (put V10.drew b8 C) b5 = some Ce := fun C => by rw [blk_put, if_neg (Ne.symm n85)]; exact hb5V
  refine wpAnyH_ready (rs := [7]) (by kernel_rfl) (by simp) ?_
  refine AllReadyH.cons (o := ⟨_, _, _, _, _, _⟩) rfl (fun K' hK => ?_) AllReadyH.nil
  go_simp
  refine hK.out _ _ (hSP _) (fun hHeld => ?_)
  clear hK K'
  try simp only [Act.put, List.setIfInBounds_toArray, List.set_cons_zero, List.set_cons_succ]
  refine wpAnyH_take (i := 8) (oi := ⟨_, _, _, _, _, _⟩) (v := ?_) rfl (by kernel_rfl) (by kernel_rfl) (by kernel_rfl) (fun _ _ _ h => h) (Or.inl ⟨by rfl, ?_⟩) (by assumption) ?_
  rotate_left 1
  · intro W' hSw
    go_simp
    try with_reducible rfl
  try simp only [Act.put, List.setIfInBounds_toArray, List.set_cons_zero, List.set_cons_succ]
  refine wpAnyH_ready (rs := [9]) (by kernel_rfl) (by simp) ?_
  refine AllReadyH.cons (o := ⟨_, _, _, _, _, _⟩) rfl (fun K' hK => ?_) AllReadyH.nil
  go_simp
  refine hK.out _ _ (hSP _) (fun hHeld => ?_)
  clear hK K'
  try simp only [Act.put, List.setIfInBounds_toArray, List.set_cons_zero, List.set_cons_succ]
  refine wpAnyH_done (by kernel_rfl) ?_ _
  have HP : Hid (Q (.returned (.agg (Reply.enc (ldP p')).toArray)) (put (put V10.drew b8 RE2) b4 (Reply.enc (ldP p')))) := by
    show Q _ _
    rw [HQ.out]
    have hxA : (put V6 bs C2).Extends (put V10.drew b8 RE2) := extends_put (HX10.out.trans (extd V10)) HW8.out _
    exact (HH9.out.grow hxA .no).finG HLOW.out ⟨ldP p', .inr ⟨HDC.out.symm, 0, p', HVR.out, .inr ⟨rfl, P, HFST.out, .inr ⟨HOV.out, rfl, rfl⟩⟩⟩, rfl⟩ (Bare.c ⟨rfl, rfl⟩ _)
  have n48 : ¬ b4 = b8 := fun e => n84 e.symm
  have hb4 := HB4.out.1
  have hf4 := HB4.out.2
  have hb8 := HB8.out.1
  have hf8 := HB8.out.2
  rw [← HR2.out] at HP
  go_wp2_with fail
  refine ret_cell (C := RE2) rfl rfl ?_ (by kernel_rfl) (by rw [r2l]; kernel_rfl) rfl HP.out
  first | (rw [blk_put, if_pos rfl, blk_put, if_neg n48]; show (blk V10 b4).map _ = _; rw [hb4]; rfl) | (simp only [blk_put, if_true, hb4, Option.map_some]; try rfl)
end Go.Proofs.Qxb6500787aGreat
