
import Derived.Test.Qxb6500787aGreatVo
import Derived.Test.Qxb6500787aGreatWc
import Derived.Test.Qxb6500787aGreatWf
import Derived.StillTailTactics
import Derived.Deep.QuietTactic
import Derived.BigQuiet
import Derived.Deep.RegionHeld
import Derived.Deep.CutRange
import Derived.Laws.ResultCell
import Derived.Laws.Rows
import Derived.DeepKeys
import Derived.DataBytes
import Derived.Laws.StructEq
import Derived.Laws.AppendOwn
import Derived.Laws.MakeOwn
import Derived.Lib.AppendStr
set_option linter.unusedSimpArgs false
set_option linter.unusedVariables false
namespace Go.Proofs.Qxb6500787aGreat
open Go.RowKit Go.Blk
attribute [local go_sem ↓] execOp_load execOp_store execOp_alloc
attribute [local go_sem] Tryz.ld26 Tryz.st26 Tryz.ld27 Tryz.st27 Tryz.ld28 Tryz.st28 Tryz.ld3 Tryz.st3 Tryz.ld29 Tryz.st29 Tryz.ld44 Tryz.st44 Tryz.ld4 Tryz.st4 Tryz.ld50 Tryz.st50 Tryz.ld32 Tryz.st32 Tryz.ld49 Tryz.st49 Tryz.ld68 Tryz.st68 Tryz.ld9 Tryz.st9 Tryz.ld40 Tryz.st40 Tryz.ld138 Tryz.st138 Tryz.ld139 Tryz.st139 Tryz.ld146 Tryz.st146 Tryz.ld183 Tryz.st183 Tryz.ld184 Tryz.st184 Tryz.ld192 Tryz.st192 Tryz.ld195 Tryz.st195 Tryz.ld217 Tryz.st217 Tryz.ld159 Tryz.st159 Tryz.ld142 Tryz.st142 Tryz.ld2 Tryz.st2 Tryz.ld5 Tryz.st5 Tryz.ld12 Tryz.st12 Tryz.ld21 Tryz.st21 Tryz.ld22 Tryz.st22 Tryz.ld24 Tryz.st24 Tryz.ld58 Tryz.st58 Tryz.ld97 Tryz.st97 Tryz.ld101 Tryz.st101 Tryz.ld116 Tryz.st116 Tryz.ld121 Tryz.st121 Tryz.ld135 Tryz.st135 Tryz.ld136 Tryz.st136 Tryz.ld143 Tryz.st143 Tryz.ld148 Tryz.st148 Tryz.ld154 Tryz.st154 Tryz.ld173 Tryz.st173 Tryz.ld187 Tryz.st187 Tryz.ld222 Tryz.st222 Tryz.ld241 Tryz.st241 Tryz.ld248 Tryz.st248 Tryz.ld268 Tryz.st268 Tryz.ld272 Tryz.st272 Tryz.ld153 Tryz.st153 Tryz.ld255 Tryz.st255 Tryz.ld256 Tryz.st256 Tryz.ld129 Tryz.st129 Tryz.ld152 Tryz.st152 Tryz.ld31 Tryz.st31 Tryz.ld46 Tryz.st46 Tryz.ld52 Tryz.st52 Tryz.ld54 Tryz.st54 Tryz.ld60 Tryz.st60 Tryz.ld70 Tryz.st70 Tryz.ld74 Tryz.st74 Tryz.ld93 Tryz.st93 Tryz.ld141 Tryz.st141 Tryz.ld151 Tryz.st151 Tryz.ld170 Tryz.st170 Tryz.ld186 Tryz.st186 Tryz.ld189 Tryz.st189 Tryz.ld194 Tryz.st194 Tryz.ld197 Tryz.st197 Tryz.ld219 Tryz.st219 Tryz.ld224 Tryz.st224 Tryz.ld230 Tryz.st230 Tryz.ld235 Tryz.st235 Tryz.ld243 Tryz.st243 Tryz.ld247 Tryz.st247 Tryz.ld252 Tryz.st252 Tryz.ld258 Tryz.st258 Tryz.al153 Tryz.al255 Tryz.al256 Tryz.al129 Tryz.al152 Tryz.al31 Tryz.al46 Tryz.al52 Tryz.al54 Tryz.al60 Tryz.al70 Tryz.al74 Tryz.al93 Tryz.al141 Tryz.al151 Tryz.al170 Tryz.al186 Tryz.al189 Tryz.al194 Tryz.al197 Tryz.al219 Tryz.al224 Tryz.al230 Tryz.al235 Tryz.al243 Tryz.al247 Tryz.al252 Tryz.al258
attribute [local go_sem] Request.length_enc Request.ok_enc Request.all_get Request.all_set Request.kind_get Request.kind_set Request.blob_get Request.blob_set Request.items_get Request.items_set Request.pred_get Request.pred_set Request.slots_get Request.slots_set Trace.length_enc Trace.ok_enc Trace.all_get Trace.all_set Trace.op_get Trace.op_set Trace.calls_get Trace.calls_set Item.length_enc Item.ok_enc Item.all_get Item.all_set Item.del_get Item.del_set Item.pred_get Item.pred_set Item.args_get Item.args_set Reply.length_enc Reply.ok_enc Reply.all_get Reply.all_set Reply.code_get Reply.code_set Reply.kind_get Reply.kind_set Reply.index_get Reply.index_set Reply.yes_get Reply.yes_set Reply.preds_get Reply.preds_set Reply.rules_get Reply.rules_set Reply.arity_get Reply.arity_set Reply.rows_get Reply.rows_set Reply.fact_get Reply.fact_set Reply.fact_del_get Reply.fact_del_set Reply.fact_pred_get Reply.fact_pred_set Reply.fact_args_get Reply.fact_args_set GEntry.length_enc GEntry.ok_enc GEntry.all_get GEntry.all_set GEntry.seq_get GEntry.seq_set GEntry.kind_get GEntry.kind_set GEntry.code_get GEntry.code_set GOp.length_enc GOp.ok_enc GOp.all_get GOp.all_set GOp.kind_get GOp.kind_set GOp.raw_get GOp.raw_set Reader.length_enc Reader.ok_enc Reader.all_get Reader.all_set Reader.buf_get Reader.buf_set Reader.at__get Reader.at__set Slot.length_enc Slot.ok_enc Slot.all_get Slot.all_set Slot.bound_get Slot.bound_set Slot.name_get Slot.name_set Session.length_enc Session.ok_enc Session.all_get Session.all_set Session.svc_get Session.svc_set Session.buf_get Session.buf_set Session.closed_get Session.closed_set GProgram.length_enc GProgram.ok_enc GProgram.all_get GProgram.all_set GProgram.pool_get GProgram.pool_set GProgram.preds_get GProgram.preds_set GProgram.rules_get GProgram.rules_set GProgram.strata_get GProgram.strata_set PredInfo.length_enc PredInfo.ok_enc PredInfo.all_get PredInfo.all_set PredInfo.arity_get PredInfo.arity_set PredInfo.base_get PredInfo.base_set PredInfo.stratum_get PredInfo.stratum_set Change.length_enc Change.ok_enc Change.all_get Change.all_set Change.del_get Change.del_set Change.pred_get Change.pred_set Change.t_get Change.t_set Store.length_enc Store.ok_enc Store.all_get Store.all_set Store.names_get Store.names_set Store.arity_get Store.arity_set Store.rows_get Store.rows_set Src.length_enc Src.ok_enc Src.all_get Src.all_set Src.b_get Src.b_set Src.at__get Src.at__set Atom.length_enc Atom.ok_enc Atom.all_get Atom.all_set Atom.pred_get Atom.pred_set Atom.args_get Atom.args_set GRule.length_enc GRule.ok_enc GRule.all_get GRule.all_set GRule.head_get GRule.head_set GRule.body_get GRule.body_set GRule.head_pred_get GRule.head_pred_set GRule.head_args_get GRule.head_args_set Cert.length_enc Cert.ok_enc Cert.all_get Cert.all_set Cert.names_get Cert.names_set Cert.nodes_get Cert.nodes_set Fact.length_enc Fact.ok_enc Fact.all_get Fact.all_set Fact.pred_get Fact.pred_set Fact.t_get Fact.t_set Literal.length_enc Literal.ok_enc Literal.all_get Literal.all_set Literal.neg_get Literal.neg_set Literal.atom_get Literal.atom_set Literal.atom_pred_get Literal.atom_pred_set Literal.atom_args_get Literal.atom_args_set Engine.length_enc Engine.ok_enc Engine.all_get Engine.all_set Engine.prog_get Engine.prog_set Engine.st_get Engine.st_set SrcCertm.length_enc SrcCertm.ok_enc SrcCertm.all_get SrcCertm.all_set SrcCertm.b_get SrcCertm.b_set SrcCertm.at__get SrcCertm.at__set GNode.length_enc GNode.ok_enc GNode.all_get GNode.all_set GNode.rule_get GNode.rule_set GNode.pred_get GNode.pred_set GNode.vals_get GNode.vals_set GNode.refs_get GNode.refs_set Term.length_enc Term.ok_enc Term.all_get Term.all_set Term.var_get Term.var_set Term.n_get Term.n_set Env.length_enc Env.ok_enc Env.all_get Env.all_set Env.val_get Env.val_set Env.set_get Env.set_set
attribute [local go_sem] size_put size_ext blk_put free_put blk_alloc free_alloc blk_drew free_drew blk_ext free_ext lookOr_some putOr_some segAt_some cellAt_some storeIn_some put_put put_alloc_new length_arr ok_arr_u8 ok_arr_u32 ok_arr_u64 ok_arr_i64 ok_arr_sl cellsV_agg cellsV_int cellsV_bool cellsV_string cellsV_pointer cellsV_slice cellsV_sl ok_int ok_bool ok_string ok_pointer ok_slice ok_sl toList_arr seg_arr set_arr nth_splice nth_splice0 seg_splice seg_splice0 splice_splice splice_splice0 length_splice_if
attribute [local go_sem ↓] execOp_box
attribute [local go_sem] box_run nth_arr_u8 put_arr_u8 blk_drewN free_drewN put_drewN blk_raw free_raw
/-- A reply, plainly. -/
structure PRep where
  code : Int
  kind : Int
  index : Int
  yes : Bool
  preds : Int
  rules : Int
  arity : Int
  rows : List (List (List UInt8))
  fpred : Int
  fargs : List (List UInt8)
def prZ (code kind index : Int) : PRep := ⟨code, kind, index, false, 0, 0, 0, [], 0, []⟩
/-- Rows of names in memory. -/
def RowsC (W : World) (s : Sl) (R : List (List (List UInt8))) : Prop := ∃ Ds : List Sl, Rw encD1 1 W s.a s.len Ds ∧ Ds.length = R.length ∧ ∀ (i : Nat) (d : Sl) (row : List (List UInt8)), Ds[i]? = some d → R[i]? = some row → Rw encS 1 W d.a d.len row
theorem RowsC.sub {W W' : World} {s : Sl} {R : List (List (List UInt8))} (h : RowsC W s R) (hs : Sub W W') : RowsC W' s R := by
  obtain ⟨Ds, h1, h2, h3⟩ := h
  exact ⟨Ds, h1.sub hs, h2, fun i d row h4 h5 => (h3 i d row h4 h5).sub hs⟩
theorem RowsC.nil (W : World) : RowsC W ⟨none, 0, 0⟩ [] := ⟨[], ⟨rfl, fun i x h => by simp at h⟩, rfl, fun i d row h => by simp at h⟩
/-- A reply in memory. -/
structure RepC (W : World) (rep : Reply) (q : PRep) : Prop where
  code : rep.code = q.code
  kind : rep.kind = q.kind
  index : rep.index = q.index
  yes : rep.yes = q.yes
  preds : rep.preds = q.preds
  rules : rep.rules = q.rules
  arity : rep.arity = q.arity
  rows : RowsC W rep.rows q.rows
  fpred : rep.fact.pred = q.fpred
  fargs : Rw encS 1 W rep.fact.args.a rep.fact.args.len q.fargs
theorem RepC.sub {W W' : World} {rep : Reply} {q : PRep} (h : RepC W rep q) (hs : Sub W W') : RepC W' rep q := ⟨h.code, h.kind, h.index, h.yes, h.preds, h.rules, h.arity, h.rows.sub hs, h.fpred, h.fargs.sub hs⟩
/-- A reply without rows and without a fact. -/
def Bare (rep : Reply) : Prop := rep.rows = ⟨none, 0, 0⟩ ∧ rep.fact.args = ⟨none, 0, 0⟩
def plR (rep : Reply) : PRep := ⟨rep.code, rep.kind, rep.index, rep.yes, rep.preds, rep.rules, rep.arity, [], rep.fact.pred, []⟩
theorem Bare.c {rep : Reply} (h : Bare rep) (W : World) : RepC W rep (plR rep) := ⟨rfl, rfl, rfl, rfl, rfl, rfl, rfl, by rw [h.1]; exact RowsC.nil W, rfl, by rw [h.2]; exact ⟨rfl, fun i x hx => by simp [plR] at hx⟩⟩
theorem bare_Z (a b c : Int) : Bare (repZ a b c) := ⟨rfl, rfl⟩
theorem plR_Z (a b c : Int) : plR (repZ a b c) = prZ a b c := rfl
/-- Only the labels of the service and of the law are left. -/
def norm6 (g : Nat) (O : Own) : Own := fun k => match O k with
  | .a i j => if i = 0 ∧ j = 0 ∨ i = 2 * g + 1 ∨ i = 2 * g + 2 ∨ i = 5 then .a i j else .no
  | l => l
def Low (O : Own) : Prop := ∀ k i j, O k = .a i j → i ≤ 5
theorem n6_no {g : Nat} {O : Own} {k : Nat} (h : O k = .no) : norm6 g O k = .no := by unfold norm6; rw [h]
theorem n6_a {g : Nat} {O : Own} {k i j : Nat} (h : O k = .a i j) : norm6 g O k = if i = 0 ∧ j = 0 ∨ i = 2 * g + 1 ∨ i = 2 * g + 2 ∨ i = 5 then .a i j else .no := by unfold norm6; rw [h]
theorem n6_I {g : Nat} {O : Own} {k : Nat} {l : Lab} (h : O k = l) (hl : isI g l) : norm6 g O k = l := by
  obtain ⟨j, e | e⟩ := hl
  · rw [n6_a (h.trans e), if_pos (.inr (.inl rfl)), e]
  · rw [n6_a (h.trans e), if_pos (.inr (.inr (.inl rfl))), e]
theorem n6_0 {g : Nat} {O : Own} {k : Nat} (h : O k = .a 0 0) : norm6 g O k = .a 0 0 := by rw [n6_a h, if_pos (.inl ⟨rfl, rfl⟩)]
theorem n6_5 {g : Nat} {O : Own} {k j : Nat} (h : O k = .a 5 j) : norm6 g O k = .a 5 j := by rw [n6_a h, if_pos (.inr (.inr (.inr rfl)))]
theorem n6_9 {g : Nat} (hg : g < 2) {O : Own} {k i j : Nat} (h : O k = .a i j) (hi : 6 ≤ i) : norm6 g O k = .no := by rw [n6_a h, if_neg (by omega)]
theorem n6_cases (g : Nat) (O : Own) (k : Nat) : norm6 g O k = .no ∨ ∃ i j, norm6 g O k = .a i j ∧ (i = 0 ∧ j = 0 ∨ i = 2 * g + 1 ∨ i = 2 * g + 2 ∨ i = 5) := by
  cases h : O k with
  | no => exact .inl (n6_no h)
  | a i j =>
    by_cases e : i = 0 ∧ j = 0 ∨ i = 2 * g + 1 ∨ i = 2 * g + 2 ∨ i = 5
    · exact .inr ⟨i, j, by rw [n6_a h, if_pos e], e⟩
    · exact .inl (by rw [n6_a h, if_neg e])
theorem n6_low {g : Nat} (hg : g < 2) (O : Own) : Low (norm6 g O) := fun k i j h => by
  rcases n6_cases g O k with e | ⟨i', j', e, e2⟩
  · rw [e] at h; cases h
  · rw [e] at h
    have := (Lab.a.inj h).1
    omega
theorem n6_free {g : Nat} (hg : g < 2) (O : Own) (k : Nat) : ¬ isI (1 - g) (norm6 g O k) ∧ norm6 g O k ≠ .a 0 8 := by
  rcases n6_cases g O k with e | ⟨i', j', e, e2⟩
  · rw [e]; exact ⟨isI_no _, fun h => by cases h⟩
  · rw [e]
    refine ⟨fun h => ?_, fun h => ?_⟩
    · obtain ⟨j, h | h⟩ := h
      · have := (Lab.a.inj h).1; omega
      · have := (Lab.a.inj h).1; omega
    · have h1 := (Lab.a.inj h).1
      have h2 := (Lab.a.inj h).2
      omega
theorem SvM.norm6 {O : Own} {W : World} {bs g : Nat} {s : Sv} {CS : List Value} {ip ia : Option Addr} {iN ic : Nat} (h : SvM O W bs g s CS ip ia iN ic) : SvM (Go.Proofs.Qxb6500787aGreat.norm6 g O) W bs g s CS ip ia iN ic := by
  refine ⟨h.cell, h.fre, n6_0 h.own, h.c, h.im.sub (Sub.cores fun b C hb ho => ⟨hb, n6_no ho⟩), h.gl, h.no, fun t ht => ?_⟩
  obtain ⟨B, bi, e1, e2, e3⟩ := h.ins t ht
  exact ⟨B, bi, e1, e2, e3.relab (fun k l hk hl => n6_I hk hl) (fun k hk => n6_no hk)⟩
theorem Kp.norm6 {O O' : Own} {W V : World} (h : Kp O W O' V) (hlow : Low O) (g : Nat) : Kp O W (Go.Proofs.Qxb6500787aGreat.norm6 g O') V := by
  refine ⟨h.os, h.tape, h.output, h.size, fun k hk hl => ⟨?_, (h.keep k hk hl).2⟩⟩
  have e := (h.keep k hk hl).1
  rcases hl with e2 | ⟨i, j, e2, hi⟩
  · rw [e2]; exact n6_no (e.trans e2)
  · have := hlow k i j e2
    obtain rfl : i = 5 := by omega
    rw [e2]; exact n6_5 (e.trans e2)
/-- How a handler leaves the service, with the reply's content. -/
def HdG (O : Own) (W : World) (bs : Nat) (P : PRep → Sv → Prop) (e : Ending) (V : World) : Prop := ∃ rep q s' O' g', P q s' ∧ e = .returned (.agg (Reply.enc rep).toArray) ∧ Kp O W O' V ∧ SvAt O' V bs g' s' ∧ (∀ k, ¬ isI (1 - g') (O' k) ∧ O' k ≠ .a 0 8) ∧ Low O' ∧ RepC (core O' V) rep q
def PZ (P : Reply → Sv → Prop) : PRep → Sv → Prop := fun q s' => ∃ rep, P rep s' ∧ q = plR rep
theorem HdRel.g {O : Own} {W : World} {bs : Nat} {P : Reply → Sv → Prop} {e : Ending} {V : World} (h : HdRel O W bs P e V) (hlow : Low O) (hb : ∀ rep s', P rep s' → Bare rep) : HdG O W bs (PZ P) e V := by
  obtain ⟨rep, s', hP, he, O', g', hK, ⟨CS, ip, ia, iN, ic, hS⟩, -⟩ := h
  exact ⟨rep, plR rep, s', norm6 g' O', g', ⟨rep, hP, rfl⟩, he, hK.norm6 hlow g', ⟨CS, ip, ia, iN, ic, hS.norm6⟩, n6_free hS.gl O', n6_low hS.gl O', (hb rep s' hP).c _⟩
theorem HdPost.g {O : Own} {W : World} {bs : Nat} {r : Reply × Sv} {e : Ending} {V : World} (h : HdPost O W bs r e V) (hlow : Low O) (hb : Bare r.1) : HdG O W bs (PZ fun rep s' => (rep, s') = r) e V := by
  obtain ⟨he, O', g', hK, ⟨CS, ip, ia, iN, ic, hS⟩, -⟩ := h
  exact ⟨r.1, plR r.1, r.2, norm6 g' O', g', ⟨r.1, rfl, rfl⟩, he, hK.norm6 hlow g', ⟨CS, ip, ia, iN, ic, hS.norm6⟩, n6_free hS.gl O', n6_low hS.gl O', hb.c _⟩
theorem HC.finG {O : Own} {W : World} {bs b4 : Nat} {Ox : Own} {V : World} {g : Nat} {s : Sv} {CS : List Value} {ip ia : Option Addr} {iN ic : Nat} (h : HC O W bs b4 Ox V g s CS ip ia iN ic) (hlow : Low O) {P : PRep → Sv → Prop} {rep : Reply} {q : PRep} (hP : P q s) (hR : RepC (core (norm6 g Ox) (put V b4 (Reply.enc rep))) rep q) : HdG O W bs P (.returned (.agg (Reply.enc rep).toArray)) (put V b4 (Reply.enc rep)) := by
  have h1 := h.sv.put99 h.ro (Reply.enc rep)
  exact ⟨rep, q, s, norm6 g Ox, g, hP, rfl, (h.kp.put_new h.lo _).norm6 hlow g, ⟨CS, ip, ia, iN, ic, h1.norm6⟩, n6_free h.sv.gl Ox, n6_low h.sv.gl Ox, hR⟩
/-- Blocks with a label that the service does not use change. -/
theorem HC.frL {O : Own} {W : World} {bs b4 : Nat} {Ox Oy : Own} {V V' : World} {g : Nat} {s : Sv} {CS : List Value} {ip ia : Option Addr} {iN ic : Nat} (h : HC O W bs b4 Ox V g s CS ip ia iN ic) {L : Lab → Prop} (hF : Fr L Ox V Oy V') (h99 : ¬ L (.a 9 9)) (h00 : ¬ L (.a 0 0)) (hno : ¬ L .no) (hI : ∀ l, isI g l → ¬ L l) (hW : ∀ k, k < W.heap.size → kept (O k) → ¬ L (O k)) : HC O W bs b4 Oy V' g s CS ip ia iN ic := by
  have hg := h.sv.gl
  have hn : ¬ L (Ox b4) := by rw [h.ro]; exact h99
  have h0 : ¬ L (Ox bs) := by rw [h.sv.own]; exact h00
  refine ⟨?_, ?_, h.lo, hF.blk h.rc hn, hF.free h.rc h.rf hn, (hF.keep b4 (blk_lt h.rc)).trans h.ro⟩
  · refine ⟨hF.os.trans h.kp.os, hF.tape.trans h.kp.tape, hF.output.trans h.kp.output, Nat.le_trans h.kp.size hF.size, fun k hk hl => ?_⟩
    have hk' : k < V.heap.size := Nat.lt_of_lt_of_le hk h.kp.size
    have e := (h.kp.keep k hk hl).1
    refine ⟨(hF.keep k hk').trans e, (hF.block k hk' ?_).trans (h.kp.keep k hk hl).2⟩
    rw [e]; exact hW k hk hl
  · refine ⟨hF.blk h.sv.cell h0, hF.free h.sv.cell h.sv.fre h0, (hF.keep bs (blk_lt h.sv.cell)).trans h.sv.own, h.sv.c, h.sv.im.grow (core_fr hF hno), hg, h.sv.no, fun t ht => ?_⟩
    obtain ⟨B, bi, e1, e2, e3⟩ := h.sv.ins t ht
    exact ⟨B, bi, e1, Nat.le_trans e2 hF.size, e3.fr hF hI hno⟩
theorem kept_low {O : Own} (hlow : Low O) {k : Nat} (h : kept (O k)) : O k = .no ∨ ∃ j, O k = .a 5 j := by
  rcases h with e | ⟨i, j, e, hi⟩
  · exact .inl e
  · have := hlow k i j e
    obtain rfl : i = 5 := by omega
    exact .inr ⟨j, e⟩
end Go.Proofs.Qxb6500787aGreat
