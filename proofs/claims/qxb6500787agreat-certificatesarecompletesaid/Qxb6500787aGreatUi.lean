
import Derived.Test.Qxb6500787aGreatUh
import Derived.StillTailTactics
import Derived.Deep.QuietTactic
import Derived.BigQuiet
import Derived.Deep.RegionHeld
import Derived.Deep.CutRange
import Derived.Laws.ResultCell
import Derived.Laws.Rows
import Derived.DeepKeys
import Derived.DataBytes
import Derived.Laws.StructEq
import Derived.Laws.AppendOwn
import Derived.Laws.MakeOwn
import Derived.Lib.AppendStr
set_option linter.unusedSimpArgs false
set_option linter.unusedVariables false
namespace Go.Proofs.Qxb6500787aGreat
open Go.RowKit Go.Blk
attribute [local go_sem ↓] execOp_load execOp_store execOp_alloc
attribute [local go_sem] Tryz.ld26 Tryz.st26 Tryz.ld27 Tryz.st27 Tryz.ld28 Tryz.st28 Tryz.ld3 Tryz.st3 Tryz.ld29 Tryz.st29 Tryz.ld44 Tryz.st44 Tryz.ld4 Tryz.st4 Tryz.ld50 Tryz.st50 Tryz.ld32 Tryz.st32 Tryz.ld49 Tryz.st49 Tryz.ld68 Tryz.st68 Tryz.ld9 Tryz.st9 Tryz.ld40 Tryz.st40 Tryz.ld138 Tryz.st138 Tryz.ld139 Tryz.st139 Tryz.ld146 Tryz.st146 Tryz.ld183 Tryz.st183 Tryz.ld184 Tryz.st184 Tryz.ld192 Tryz.st192 Tryz.ld195 Tryz.st195 Tryz.ld217 Tryz.st217 Tryz.ld159 Tryz.st159 Tryz.ld142 Tryz.st142 Tryz.ld2 Tryz.st2 Tryz.ld5 Tryz.st5 Tryz.ld12 Tryz.st12 Tryz.ld21 Tryz.st21 Tryz.ld22 Tryz.st22 Tryz.ld24 Tryz.st24 Tryz.ld58 Tryz.st58 Tryz.ld97 Tryz.st97 Tryz.ld101 Tryz.st101 Tryz.ld116 Tryz.st116 Tryz.ld121 Tryz.st121 Tryz.ld135 Tryz.st135 Tryz.ld136 Tryz.st136 Tryz.ld143 Tryz.st143 Tryz.ld148 Tryz.st148 Tryz.ld154 Tryz.st154 Tryz.ld173 Tryz.st173 Tryz.ld187 Tryz.st187 Tryz.ld222 Tryz.st222 Tryz.ld241 Tryz.st241 Tryz.ld248 Tryz.st248 Tryz.ld268 Tryz.st268 Tryz.ld272 Tryz.st272 Tryz.ld153 Tryz.st153 Tryz.ld255 Tryz.st255 Tryz.ld256 Tryz.st256 Tryz.ld129 Tryz.st129 Tryz.ld152 Tryz.st152 Tryz.ld31 Tryz.st31 Tryz.ld46 Tryz.st46 Tryz.ld52 Tryz.st52 Tryz.ld54 Tryz.st54 Tryz.ld60 Tryz.st60 Tryz.ld70 Tryz.st70 Tryz.ld74 Tryz.st74 Tryz.ld93 Tryz.st93 Tryz.ld141 Tryz.st141 Tryz.ld151 Tryz.st151 Tryz.ld170 Tryz.st170 Tryz.ld186 Tryz.st186 Tryz.ld189 Tryz.st189 Tryz.ld194 Tryz.st194 Tryz.ld197 Tryz.st197 Tryz.ld219 Tryz.st219 Tryz.ld224 Tryz.st224 Tryz.ld230 Tryz.st230 Tryz.ld235 Tryz.st235 Tryz.ld243 Tryz.st243 Tryz.ld247 Tryz.st247 Tryz.ld252 Tryz.st252 Tryz.ld258 Tryz.st258 Tryz.al153 Tryz.al255 Tryz.al256 Tryz.al129 Tryz.al152 Tryz.al31 Tryz.al46 Tryz.al52 Tryz.al54 Tryz.al60 Tryz.al70 Tryz.al74 Tryz.al93 Tryz.al141 Tryz.al151 Tryz.al170 Tryz.al186 Tryz.al189 Tryz.al194 Tryz.al197 Tryz.al219 Tryz.al224 Tryz.al230 Tryz.al235 Tryz.al243 Tryz.al247 Tryz.al252 Tryz.al258
attribute [local go_sem] Request.length_enc Request.ok_enc Request.all_get Request.all_set Request.kind_get Request.kind_set Request.blob_get Request.blob_set Request.items_get Request.items_set Request.pred_get Request.pred_set Request.slots_get Request.slots_set Trace.length_enc Trace.ok_enc Trace.all_get Trace.all_set Trace.op_get Trace.op_set Trace.calls_get Trace.calls_set Item.length_enc Item.ok_enc Item.all_get Item.all_set Item.del_get Item.del_set Item.pred_get Item.pred_set Item.args_get Item.args_set Reply.length_enc Reply.ok_enc Reply.all_get Reply.all_set Reply.code_get Reply.code_set Reply.kind_get Reply.kind_set Reply.index_get Reply.index_set Reply.yes_get Reply.yes_set Reply.preds_get Reply.preds_set Reply.rules_get Reply.rules_set Reply.arity_get Reply.arity_set Reply.rows_get Reply.rows_set Reply.fact_get Reply.fact_set Reply.fact_del_get Reply.fact_del_set Reply.fact_pred_get Reply.fact_pred_set Reply.fact_args_get Reply.fact_args_set GEntry.length_enc GEntry.ok_enc GEntry.all_get GEntry.all_set GEntry.seq_get GEntry.seq_set GEntry.kind_get GEntry.kind_set GEntry.code_get GEntry.code_set GOp.length_enc GOp.ok_enc GOp.all_get GOp.all_set GOp.kind_get GOp.kind_set GOp.raw_get GOp.raw_set Reader.length_enc Reader.ok_enc Reader.all_get Reader.all_set Reader.buf_get Reader.buf_set Reader.at__get Reader.at__set Slot.length_enc Slot.ok_enc Slot.all_get Slot.all_set Slot.bound_get Slot.bound_set Slot.name_get Slot.name_set Session.length_enc Session.ok_enc Session.all_get Session.all_set Session.svc_get Session.svc_set Session.buf_get Session.buf_set Session.closed_get Session.closed_set GProgram.length_enc GProgram.ok_enc GProgram.all_get GProgram.all_set GProgram.pool_get GProgram.pool_set GProgram.preds_get GProgram.preds_set GProgram.rules_get GProgram.rules_set GProgram.strata_get GProgram.strata_set PredInfo.length_enc PredInfo.ok_enc PredInfo.all_get PredInfo.all_set PredInfo.arity_get PredInfo.arity_set PredInfo.base_get PredInfo.base_set PredInfo.stratum_get PredInfo.stratum_set Change.length_enc Change.ok_enc Change.all_get Change.all_set Change.del_get Change.del_set Change.pred_get Change.pred_set Change.t_get Change.t_set Store.length_enc Store.ok_enc Store.all_get Store.all_set Store.names_get Store.names_set Store.arity_get Store.arity_set Store.rows_get Store.rows_set Src.length_enc Src.ok_enc Src.all_get Src.all_set Src.b_get Src.b_set Src.at__get Src.at__set Atom.length_enc Atom.ok_enc Atom.all_get Atom.all_set Atom.pred_get Atom.pred_set Atom.args_get Atom.args_set GRule.length_enc GRule.ok_enc GRule.all_get GRule.all_set GRule.head_get GRule.head_set GRule.body_get GRule.body_set GRule.head_pred_get GRule.head_pred_set GRule.head_args_get GRule.head_args_set Cert.length_enc Cert.ok_enc Cert.all_get Cert.all_set Cert.names_get Cert.names_set Cert.nodes_get Cert.nodes_set Fact.length_enc Fact.ok_enc Fact.all_get Fact.all_set Fact.pred_get Fact.pred_set Fact.t_get Fact.t_set Literal.length_enc Literal.ok_enc Literal.all_get Literal.all_set Literal.neg_get Literal.neg_set Literal.atom_get Literal.atom_set Literal.atom_pred_get Literal.atom_pred_set Literal.atom_args_get Literal.atom_args_set Engine.length_enc Engine.ok_enc Engine.all_get Engine.all_set Engine.prog_get Engine.prog_set Engine.st_get Engine.st_set SrcCertm.length_enc SrcCertm.ok_enc SrcCertm.all_get SrcCertm.all_set SrcCertm.b_get SrcCertm.b_set SrcCertm.at__get SrcCertm.at__set GNode.length_enc GNode.ok_enc GNode.all_get GNode.all_set GNode.rule_get GNode.rule_set GNode.pred_get GNode.pred_set GNode.vals_get GNode.vals_set GNode.refs_get GNode.refs_set Term.length_enc Term.ok_enc Term.all_get Term.all_set Term.var_get Term.var_set Term.n_get Term.n_set Env.length_enc Env.ok_enc Env.all_get Env.all_set Env.val_get Env.val_set Env.set_get Env.set_set
attribute [local go_sem] size_put size_ext blk_put free_put blk_alloc free_alloc blk_drew free_drew blk_ext free_ext lookOr_some putOr_some segAt_some cellAt_some storeIn_some put_put put_alloc_new length_arr ok_arr_u8 ok_arr_u32 ok_arr_u64 ok_arr_i64 ok_arr_sl cellsV_agg cellsV_int cellsV_bool cellsV_string cellsV_pointer cellsV_slice cellsV_sl ok_int ok_bool ok_string ok_pointer ok_slice ok_sl toList_arr seg_arr set_arr nth_splice nth_splice0 seg_splice seg_splice0 splice_splice splice_splice0 length_splice_if
attribute [local go_sem ↓] execOp_box
attribute [local go_sem] box_run nth_arr_u8 put_arr_u8 blk_drewN free_drewN put_drewN blk_raw free_raw
/-- A program in memory whose predicates and cells can be written. -/
structure PgK (B : Nat) (O : Own) (V : World) (Ce : List Value) (p : PP) : Prop where
  len : Ce.length = 4
  pool : ∃ a c, nth Ce 0 = some (.slice a p.pool.length c) ∧ Rw encS 1 (core O V) a p.pool.length p.pool
  preds : ∃ a c, nth Ce 1 = some (.slice a p.preds.length c) ∧ RowL B O (.a 6 3) V 65 3 (.slice a p.preds.length c) p.preds.length (p.preds.flatMap PredInfo.enc)
  rules : ∃ a c Rs, nth Ce 2 = some (.slice a p.rules.length c) ∧ Rw GRule.enc 3 (core O V) a p.rules.length Rs ∧ RulsC (core O V) Rs p.rules
  strata : nth Ce 3 = some (.int .i64 p.strata)
theorem PgK.pgR {B : Nat} {O : Own} {V : World} {Ce : List Value} {p : PP} (h : PgK B O V Ce p) : PgR V Ce p := by
  obtain ⟨a1, c1, g1, g2⟩ := h.pool
  obtain ⟨a2, c2, g3, g4⟩ := h.preds
  obtain ⟨a3, c3, Rs, g5, g6, g7⟩ := h.rules
  exact ⟨⟨a1, _, c1⟩, ⟨a2, _, c2⟩, ⟨a3, _, c3⟩, g1, g3, g5, h.strata, g2.uncore, (g4.rw PredInfo.length_enc).1, Rs, g6.uncore, g7.1, (g7.sub (core_sub O V)).2⟩
/-- The program at bp. -/
structure PgA (B : Nat) (O : Own) (V : World) (bp : Nat) (Ce : List Value) (p : PP) : Prop where
  cell : blk V bp = some Ce
  fre : free V bp = true
  own : O bp = .a 6 4
  pk : PgK B O V Ce p
theorem PgA.progC {B : Nat} {O : Own} {V : World} {bp : Nat} {Ce : List Value} {p : PP} (h : PgA B O V bp Ce p) : ProgC V bp p := ⟨Ce, h.cell, by rw [h.pk.len]; omega, h.pk.pgR⟩
theorem PgA.drewN {B : Nat} {O : Own} {V : World} {bp : Nat} {Ce : List Value} {p : PP} (h : PgA B O V bp Ce p) (k : Nat) : PgA B O (V.drewN k) bp Ce p := ⟨h.cell, h.fre, h.own, h.pk.len, h.pk.pool, h.pk.preds, h.pk.rules, h.pk.strata⟩
theorem PgA.fr {B : Nat} {O : Own} {V : World} {bp : Nat} {Ce : List Value} {p : PP} (h : PgA B O V bp Ce p) {L : Lab → Prop} {O' : Own} {V' : World} (hF : Fr L O V O' V') (h1 : ¬ L .no) (h3 : ¬ L (.a 6 3)) (h4 : ¬ L (.a 6 4)) : PgA B O' V' bp Ce p := by
  have hs := Sub.ext (core_fr hF h1)
  obtain ⟨a1, c1, g1, g2⟩ := h.pk.pool
  obtain ⟨a2, c2, g3, g4⟩ := h.pk.preds
  obtain ⟨a3, c3, Rs, g5, g6, g7⟩ := h.pk.rules
  exact ⟨hF.blk h.cell (by rw [h.own]; exact h4), hF.free h.cell h.fre (by rw [h.own]; exact h4), (hF.keep bp (blk_lt h.cell)).trans h.own, h.pk.len, ⟨a1, c1, g1, g2.sub hs⟩, ⟨a2, c2, g3, g4.fr hF h3⟩, ⟨a3, c3, Rs, g5, g6.sub hs, g7.sub hs⟩, h.pk.strata⟩
def isP (l : Lab) : Prop := l = .a 6 3 ∨ l = .a 6 4
theorem isP_no : ¬ isP .no := fun h => by rcases h with e | e <;> cases e
/-- One cell of the predicates written. -/
theorem PgA.set {B : Nat} {O : Own} {V : World} {bp : Nat} {Ce : List Value} {p : PP} (h : PgA B O V bp Ce p) {q : Nat} {x : PredInfo} (hx : p.preds[q]? = some x) (v : Int) : ∃ g C c, nth Ce 1 = some (.slice (some ⟨g, 0, none⟩) p.preds.length c) ∧ blk V g = some C ∧ free V g = true ∧ q * 3 + 3 ≤ C.length ∧ (∀ j y, p.preds[j]? = some y → seg C (j * 3) 3 = y.enc) ∧ Fr isP O V O (put V g (splice C (q * 3 + 2) [.int .i64 v])) ∧ PgA B O (put V g (splice C (q * 3 + 2) [.int .i64 v])) bp Ce ⟨p.pool, p.preds.set q ⟨x.arity, x.base, v⟩, p.rules, p.strata⟩ := by
  obtain ⟨a1, c1, g1, g2⟩ := h.pk.pool
  obtain ⟨a2, c2, g3, g4⟩ := h.pk.preds
  obtain ⟨a3, c3, Rs, g5, g6, g7⟩ := h.pk.rules
  have hq : q < p.preds.length := (List.getElem?_eq_some_iff.1 hx).1
  obtain ⟨g, C, e1, e2, e3, e4, e5, e6, e7, e8, e9⟩ := g4.open PredInfo.length_enc (by omega)
  have hle : (q + 1) * 3 ≤ p.preds.length * 3 := Nat.mul_le_mul_right _ hq
  have hrow := e9 (splice C (q * 3 + 2) [.int .i64 v]) (p.preds.set q ⟨x.arity, x.base, v⟩) (length_splice1 (by omega)) (by simp) (fun j y hy => by
    rw [List.getElem?_set] at hy
    by_cases hij : q = j
    · subst hij
      rw [if_pos rfl, if_pos hq] at hy
      rw [seg_splice_in (e8 q x hx) (by omega) (by omega), ← Option.some.inj hy]
      rfl
    · rw [if_neg hij] at hy
      rw [seg_splice_off (by omega) (by omega)]
      exact e8 j y hy)
  have hF : Fr (fun l => l = .a 6 3) O V O (put V g (splice C (q * 3 + 2) [.int .i64 v])) := (Fr.refl _ _ _).put (L := fun l => l = .a 6 3) e5 _
  have hs := Sub.ext (core_fr hF (fun e => by cases e))
  have hl : ¬ (fun l => l = Lab.a 6 3) (O bp) := by rw [h.own]; exact fun e => by have := (Lab.a.inj e).2; omega
  refine ⟨g, C, c2, by rw [g3, e1], e2, e3, by omega, e8, hF.mono (fun l e => .inl e), ⟨hF.blk h.cell hl, hF.free h.cell h.fre hl, h.own, h.pk.len, ⟨a1, c1, g1, g2.sub hs⟩, ⟨a2, c2, ?_, ?_⟩, ⟨a3, c3, Rs, g5, g6.sub hs, g7.sub hs⟩, h.pk.strata⟩⟩
  · show nth Ce 1 = some (.slice a2 (p.preds.set q ⟨x.arity, x.base, v⟩).length c2)
    rw [List.length_set]; exact g3
  · have h9 : (p.preds.set q ⟨x.arity, x.base, v⟩).length = p.preds.length := List.length_set
    show RowL B O (.a 6 3) _ 65 3 (.slice a2 (p.preds.set q ⟨x.arity, x.base, v⟩).length c2) _ _
    rw [h9] at hrow ⊢
    exact hrow
/-- The number of strata written. -/
theorem PgA.setS {B : Nat} {O : Own} {V : World} {bp : Nat} {Ce : List Value} {p : PP} (h : PgA B O V bp Ce p) (v : Int) : Fr isP O V O (put V bp (splice Ce 3 [.int .i64 v])) ∧ PgA B O (put V bp (splice Ce 3 [.int .i64 v])) bp (splice Ce 3 [.int .i64 v]) ⟨p.pool, p.preds, p.rules, v⟩ := by
  obtain ⟨a1, c1, g1, g2⟩ := h.pk.pool
  obtain ⟨a2, c2, g3, g4⟩ := h.pk.preds
  obtain ⟨a3, c3, Rs, g5, g6, g7⟩ := h.pk.rules
  have hl := h.pk.len
  have hF : Fr (fun l => l = .a 6 4) O V O (put V bp (splice Ce 3 [.int .i64 v])) := (Fr.refl _ _ _).put (L := fun l => l = .a 6 4) h.own _
  have hs := Sub.ext (core_fr hF (fun e => by cases e))
  have hn : ∀ k, nth (splice Ce 3 [.int .i64 v]) k = if k = 3 then some (.int .i64 v) else nth Ce k := fun k => splice_nth (by omega) k
  exact ⟨hF.mono (fun l e => .inr e), ⟨by rw [blk_put, if_pos rfl, h.cell]; rfl, by rw [free_put]; exact h.fre, h.own, by rw [length_splice1 (by omega)]; exact hl, ⟨a1, c1, by rw [hn, if_neg (by omega)]; exact g1, g2.sub hs⟩, ⟨a2, c2, by rw [hn, if_neg (by omega)]; exact g3, g4.fr hF (fun e => by have := (Lab.a.inj e).2; omega)⟩, ⟨a3, c3, Rs, by rw [hn, if_neg (by omega)]; exact g5, g6.sub hs, g7.sub hs⟩, by rw [hn, if_pos rfl]⟩⟩
/-- The strata, plainly. -/
def stO (ps : List PredInfo) (q : Nat) : Int := (ps.getD q PredInfo.zero).stratum
def stP (ps : List PredInfo) (q : Nat) (v : Int) : List PredInfo := ps.set q ⟨(ps.getD q PredInfo.zero).arity, (ps.getD q PredInfo.zero).base, v⟩
def lea (ps : List PredInfo) (l : PL) : Int := stO ps l.atom.pred + if l.neg then 1 else 0
def stL (h : Nat) (X : List PredInfo × Bool) (l : PL) : List PredInfo × Bool := if stO X.1 h < lea X.1 l then (stP X.1 h (lea X.1 l), true) else X
def stR (X : List PredInfo × Bool) (r : PR) : List PredInfo × Bool := r.body.foldl (stL r.head.pred) X
def stRd (n : Nat) : List PR → List PredInfo × Bool → Option (List PredInfo × Bool)
  | [], X => some X
  | r :: rs, X => if (n : Int) ≤ stO (stR X r).1 r.head.pred then none else stRd n rs (stR X r)
inductive StTo (n : Nat) (rs : List PR) : List PredInfo → Option (List PredInfo) → Prop where
  | bad {ps : List PredInfo} : stRd n rs (ps, false) = none → StTo n rs ps none
  | more {ps ps' : List PredInfo} {r : Option (List PredInfo)} : stRd n rs (ps, false) = some (ps', true) → StTo n rs ps' r → StTo n rs ps r
  | done {ps ps' : List PredInfo} : stRd n rs (ps, false) = some (ps', false) → StTo n rs ps (some ps')
theorem StTo.det {n : Nat} {rs : List PR} {ps : List PredInfo} {r1 r2 : Option (List PredInfo)} (h : StTo n rs ps r1) : StTo n rs ps r2 → r1 = r2 := by
  induction h with
  | bad h =>
    intro h'
    cases h' with
    | bad _ => rfl
    | more h2 _ => rw [h] at h2; cases h2
    | done h2 => rw [h] at h2; cases h2
  | more h _ ih =>
    intro h'
    cases h' with
    | bad h2 => rw [h] at h2; cases h2
    | more h2 h3 =>
      rw [h] at h2
      have e := Option.some.inj h2
      rw [← (Prod.mk.inj e).1] at h3
      exact ih h3
    | done h2 =>
      rw [h] at h2
      have e := (Prod.mk.inj (Option.some.inj h2)).2
      cases e
  | done h =>
    intro h'
    cases h' with
    | bad h2 => rw [h] at h2; cases h2
    | more h2 h3 =>
      rw [h] at h2
      have e := (Prod.mk.inj (Option.some.inj h2)).2
      cases e
    | done h2 =>
      rw [h] at h2
      rw [(Prod.mk.inj (Option.some.inj h2)).1]
def maxS (ps : List PredInfo) : Int := ps.foldl (fun s y => if s < y.stratum + 1 then y.stratum + 1 else s) 1
def IB (m : Int) (ps : List PredInfo) : Prop := ∀ y ∈ ps, 0 ≤ y.stratum ∧ y.stratum ≤ m
theorem IB.mono {m m' : Int} {ps : List PredInfo} (h : IB m ps) (hm : m ≤ m') : IB m' ps := fun y hy => by have := h y hy; omega
theorem IB.at {m : Int} {ps : List PredInfo} (h : IB m ps) (hm : 0 ≤ m) (q : Nat) : 0 ≤ stO ps q ∧ stO ps q ≤ m := by
  unfold stO
  rw [List.getD_eq_getElem?_getD]
  cases hx : ps[q]? with
  | none => exact ⟨Int.le_refl 0, hm⟩
  | some y => exact h y (List.mem_of_getElem? hx)
theorem stP_len (ps : List PredInfo) (q : Nat) (v : Int) : (stP ps q v).length = ps.length := by unfold stP; rw [List.length_set]
theorem IB.put {m : Int} {ps : List PredInfo} (h : IB m ps) (q : Nat) {v : Int} (hv : 0 ≤ v ∧ v ≤ m) : IB m (stP ps q v) := fun y hy => by
  unfold stP at hy
  rcases mem_set_cases hy with e | e
  · rw [e]; exact hv
  · exact h y e
theorem lea_IB {m : Int} {ps : List PredInfo} (h : IB m ps) (hm : 0 ≤ m) (l : PL) : 0 ≤ lea ps l ∧ lea ps l ≤ m + 1 := by
  have := h.at hm l.atom.pred
  unfold lea
  split <;> omega
theorem stL_IB {m : Int} {X : List PredInfo × Bool} (h : IB m X.1) (hm : 0 ≤ m) (q : Nat) (l : PL) : IB (m + 1) (stL q X l).1 := by
  unfold stL
  split
  · exact (h.mono (by omega)).put q (lea_IB h hm l)
  · exact h.mono (by omega)
theorem stL_len (q : Nat) (X : List PredInfo × Bool) (l : PL) : (stL q X l).1.length = X.1.length := by
  unfold stL
  split
  · exact stP_len _ _ _
  · rfl
/-- Only the head's number changes. -/
theorem stL_ne (q : Nat) (X : List PredInfo × Bool) (l : PL) {k : Nat} (hk : k ≠ q) : (stL q X l).1[k]? = X.1[k]? := by
  unfold stL
  split
  · unfold stP
    rw [List.getElem?_set, if_neg (fun e => hk e.symm)]
  · rfl
def sumS (ps : List PredInfo) : Nat := (ps.map fun y => y.stratum.toNat).sum
theorem sumS_set : ∀ (ps : List PredInfo) (q : Nat) (x y : PredInfo), ps[q]? = some x → sumS (ps.set q y) + x.stratum.toNat = sumS ps + y.stratum.toNat
  | [], q, x, y, h => by simp at h
  | z :: ps, 0, x, y, h => by
    have e : z = x := by simpa using h
    unfold sumS
    simp only [List.set_cons_zero, List.map_cons, List.sum_cons]
    rw [e]; omega
  | z :: ps, q + 1, x, y, h => by
    have ih := sumS_set ps q x y (by simpa using h)
    unfold sumS at ih ⊢
    simp only [List.set_cons_succ, List.map_cons, List.sum_cons]
    omega
theorem stO_at {ps : List PredInfo} {q : Nat} {x : PredInfo} (h : ps[q]? = some x) : stO ps q = x.stratum ∧ ps.getD q PredInfo.zero = x := by
  unfold stO
  rw [List.getD_eq_getElem?_getD, h]; exact ⟨rfl, rfl⟩
theorem stL_sum {m : Int} {X : List PredInfo × Bool} (h : IB m X.1) (hm : 0 ≤ m) {q : Nat} (hq : q < X.1.length) (l : PL) : sumS X.1 ≤ sumS (stL q X l).1 ∧ ((stL q X l).2 = true → X.2 = true ∨ sumS X.1 < sumS (stL q X l).1) := by
  unfold stL
  split
  · rename_i hlt
    obtain ⟨x, hx⟩ : ∃ x, X.1[q]? = some x := ⟨_, List.getElem?_eq_getElem hq⟩
    have h1 := sumS_set X.1 q x ⟨(X.1.getD q PredInfo.zero).arity, (X.1.getD q PredInfo.zero).base, lea X.1 l⟩ hx
    have h2 := (stO_at hx).1
    have h3 := h.at hm q
    have h4 := lea_IB h hm l
    have h5 : sumS (stP X.1 q (lea X.1 l)) + x.stratum.toNat = sumS X.1 + (lea X.1 l).toNat := h1
    rw [h2] at hlt h3
    refine ⟨by dsimp only; omega, fun _ => .inr (by dsimp only; omega)⟩
  · exact ⟨Nat.le_refl _, fun h => .inl h⟩
theorem sumS_le {m : Nat} : ∀ (ps : List PredInfo), IB (m : Int) ps → sumS ps ≤ ps.length * m
  | [], _ => by simp [sumS]
  | y :: ps, h => by
    have ih := sumS_le ps (fun z hz => h z (List.mem_cons_of_mem _ hz))
    have h1 := h y (List.mem_cons_self)
    unfold sumS at ih ⊢
    rw [List.map_cons, List.sum_cons, List.length_cons, Nat.add_mul, Nat.one_mul]
    omega
/-- What one rule does. -/
theorem stR_take {r : PR} {h : Nat} {k : Nat} {l : PL} (hl : r.body[k]? = some l) (X : List PredInfo × Bool) : (r.body.take (k + 1)).foldl (stL h) X = stL h ((r.body.take k).foldl (stL h) X) l := by
  rw [take_at hl, List.foldl_append]; rfl
end Go.Proofs.Qxb6500787aGreat
