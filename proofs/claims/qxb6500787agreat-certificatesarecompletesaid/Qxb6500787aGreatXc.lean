
import Derived.Test.Qxb6500787aGreatXb
import Derived.StillTailTactics
import Derived.Deep.QuietTactic
import Derived.BigQuiet
import Derived.Deep.RegionHeld
import Derived.Deep.CutRange
import Derived.Laws.ResultCell
import Derived.Laws.Rows
import Derived.DeepKeys
import Derived.DataBytes
import Derived.Laws.StructEq
import Derived.Laws.AppendOwn
import Derived.Laws.MakeOwn
import Derived.Lib.AppendStr
set_option linter.unusedSimpArgs false
set_option linter.unusedVariables false
namespace Go.Proofs.Qxb6500787aGreat
open Go.RowKit Go.Blk
attribute [local go_sem ↓] execOp_load execOp_store execOp_alloc
attribute [local go_sem] Tryz.ld26 Tryz.st26 Tryz.ld27 Tryz.st27 Tryz.ld28 Tryz.st28 Tryz.ld3 Tryz.st3 Tryz.ld29 Tryz.st29 Tryz.ld44 Tryz.st44 Tryz.ld4 Tryz.st4 Tryz.ld50 Tryz.st50 Tryz.ld32 Tryz.st32 Tryz.ld49 Tryz.st49 Tryz.ld68 Tryz.st68 Tryz.ld9 Tryz.st9 Tryz.ld40 Tryz.st40 Tryz.ld138 Tryz.st138 Tryz.ld139 Tryz.st139 Tryz.ld146 Tryz.st146 Tryz.ld183 Tryz.st183 Tryz.ld184 Tryz.st184 Tryz.ld192 Tryz.st192 Tryz.ld195 Tryz.st195 Tryz.ld217 Tryz.st217 Tryz.ld159 Tryz.st159 Tryz.ld142 Tryz.st142 Tryz.ld2 Tryz.st2 Tryz.ld5 Tryz.st5 Tryz.ld12 Tryz.st12 Tryz.ld21 Tryz.st21 Tryz.ld22 Tryz.st22 Tryz.ld24 Tryz.st24 Tryz.ld58 Tryz.st58 Tryz.ld97 Tryz.st97 Tryz.ld101 Tryz.st101 Tryz.ld116 Tryz.st116 Tryz.ld121 Tryz.st121 Tryz.ld135 Tryz.st135 Tryz.ld136 Tryz.st136 Tryz.ld143 Tryz.st143 Tryz.ld148 Tryz.st148 Tryz.ld154 Tryz.st154 Tryz.ld173 Tryz.st173 Tryz.ld187 Tryz.st187 Tryz.ld222 Tryz.st222 Tryz.ld241 Tryz.st241 Tryz.ld248 Tryz.st248 Tryz.ld268 Tryz.st268 Tryz.ld272 Tryz.st272 Tryz.ld153 Tryz.st153 Tryz.ld255 Tryz.st255 Tryz.ld256 Tryz.st256 Tryz.ld129 Tryz.st129 Tryz.ld152 Tryz.st152 Tryz.ld31 Tryz.st31 Tryz.ld46 Tryz.st46 Tryz.ld52 Tryz.st52 Tryz.ld54 Tryz.st54 Tryz.ld60 Tryz.st60 Tryz.ld70 Tryz.st70 Tryz.ld74 Tryz.st74 Tryz.ld93 Tryz.st93 Tryz.ld141 Tryz.st141 Tryz.ld151 Tryz.st151 Tryz.ld170 Tryz.st170 Tryz.ld186 Tryz.st186 Tryz.ld189 Tryz.st189 Tryz.ld194 Tryz.st194 Tryz.ld197 Tryz.st197 Tryz.ld219 Tryz.st219 Tryz.ld224 Tryz.st224 Tryz.ld230 Tryz.st230 Tryz.ld235 Tryz.st235 Tryz.ld243 Tryz.st243 Tryz.ld247 Tryz.st247 Tryz.ld252 Tryz.st252 Tryz.ld258 Tryz.st258 Tryz.al153 Tryz.al255 Tryz.al256 Tryz.al129 Tryz.al152 Tryz.al31 Tryz.al46 Tryz.al52 Tryz.al54 Tryz.al60 Tryz.al70 Tryz.al74 Tryz.al93 Tryz.al141 Tryz.al151 Tryz.al170 Tryz.al186 Tryz.al189 Tryz.al194 Tryz.al197 Tryz.al219 Tryz.al224 Tryz.al230 Tryz.al235 Tryz.al243 Tryz.al247 Tryz.al252 Tryz.al258
attribute [local go_sem] Request.length_enc Request.ok_enc Request.all_get Request.all_set Request.kind_get Request.kind_set Request.blob_get Request.blob_set Request.items_get Request.items_set Request.pred_get Request.pred_set Request.slots_get Request.slots_set Trace.length_enc Trace.ok_enc Trace.all_get Trace.all_set Trace.op_get Trace.op_set Trace.calls_get Trace.calls_set Item.length_enc Item.ok_enc Item.all_get Item.all_set Item.del_get Item.del_set Item.pred_get Item.pred_set Item.args_get Item.args_set Reply.length_enc Reply.ok_enc Reply.all_get Reply.all_set Reply.code_get Reply.code_set Reply.kind_get Reply.kind_set Reply.index_get Reply.index_set Reply.yes_get Reply.yes_set Reply.preds_get Reply.preds_set Reply.rules_get Reply.rules_set Reply.arity_get Reply.arity_set Reply.rows_get Reply.rows_set Reply.fact_get Reply.fact_set Reply.fact_del_get Reply.fact_del_set Reply.fact_pred_get Reply.fact_pred_set Reply.fact_args_get Reply.fact_args_set GEntry.length_enc GEntry.ok_enc GEntry.all_get GEntry.all_set GEntry.seq_get GEntry.seq_set GEntry.kind_get GEntry.kind_set GEntry.code_get GEntry.code_set GOp.length_enc GOp.ok_enc GOp.all_get GOp.all_set GOp.kind_get GOp.kind_set GOp.raw_get GOp.raw_set Reader.length_enc Reader.ok_enc Reader.all_get Reader.all_set Reader.buf_get Reader.buf_set Reader.at__get Reader.at__set Slot.length_enc Slot.ok_enc Slot.all_get Slot.all_set Slot.bound_get Slot.bound_set Slot.name_get Slot.name_set Session.length_enc Session.ok_enc Session.all_get Session.all_set Session.svc_get Session.svc_set Session.buf_get Session.buf_set Session.closed_get Session.closed_set GProgram.length_enc GProgram.ok_enc GProgram.all_get GProgram.all_set GProgram.pool_get GProgram.pool_set GProgram.preds_get GProgram.preds_set GProgram.rules_get GProgram.rules_set GProgram.strata_get GProgram.strata_set PredInfo.length_enc PredInfo.ok_enc PredInfo.all_get PredInfo.all_set PredInfo.arity_get PredInfo.arity_set PredInfo.base_get PredInfo.base_set PredInfo.stratum_get PredInfo.stratum_set Change.length_enc Change.ok_enc Change.all_get Change.all_set Change.del_get Change.del_set Change.pred_get Change.pred_set Change.t_get Change.t_set Store.length_enc Store.ok_enc Store.all_get Store.all_set Store.names_get Store.names_set Store.arity_get Store.arity_set Store.rows_get Store.rows_set Src.length_enc Src.ok_enc Src.all_get Src.all_set Src.b_get Src.b_set Src.at__get Src.at__set Atom.length_enc Atom.ok_enc Atom.all_get Atom.all_set Atom.pred_get Atom.pred_set Atom.args_get Atom.args_set GRule.length_enc GRule.ok_enc GRule.all_get GRule.all_set GRule.head_get GRule.head_set GRule.body_get GRule.body_set GRule.head_pred_get GRule.head_pred_set GRule.head_args_get GRule.head_args_set Cert.length_enc Cert.ok_enc Cert.all_get Cert.all_set Cert.names_get Cert.names_set Cert.nodes_get Cert.nodes_set Fact.length_enc Fact.ok_enc Fact.all_get Fact.all_set Fact.pred_get Fact.pred_set Fact.t_get Fact.t_set Literal.length_enc Literal.ok_enc Literal.all_get Literal.all_set Literal.neg_get Literal.neg_set Literal.atom_get Literal.atom_set Literal.atom_pred_get Literal.atom_pred_set Literal.atom_args_get Literal.atom_args_set Engine.length_enc Engine.ok_enc Engine.all_get Engine.all_set Engine.prog_get Engine.prog_set Engine.st_get Engine.st_set SrcCertm.length_enc SrcCertm.ok_enc SrcCertm.all_get SrcCertm.all_set SrcCertm.b_get SrcCertm.b_set SrcCertm.at__get SrcCertm.at__set GNode.length_enc GNode.ok_enc GNode.all_get GNode.all_set GNode.rule_get GNode.rule_set GNode.pred_get GNode.pred_set GNode.vals_get GNode.vals_set GNode.refs_get GNode.refs_set Term.length_enc Term.ok_enc Term.all_get Term.all_set Term.var_get Term.var_set Term.n_get Term.n_set Env.length_enc Env.ok_enc Env.all_get Env.all_set Env.val_get Env.val_set Env.set_get Env.set_set
attribute [local go_sem] size_put size_ext blk_put free_put blk_alloc free_alloc blk_drew free_drew blk_ext free_ext lookOr_some putOr_some segAt_some cellAt_some storeIn_some put_put put_alloc_new length_arr ok_arr_u8 ok_arr_u32 ok_arr_u64 ok_arr_i64 ok_arr_sl cellsV_agg cellsV_int cellsV_bool cellsV_string cellsV_pointer cellsV_slice cellsV_sl ok_int ok_bool ok_string ok_pointer ok_slice ok_sl toList_arr seg_arr set_arr nth_splice nth_splice0 seg_splice seg_splice0 splice_splice splice_splice0 length_splice_if
attribute [local go_sem ↓] execOp_box
attribute [local go_sem] box_run nth_arr_u8 put_arr_u8 blk_drewN free_drewN put_drewN blk_raw free_raw
/-- Values that the table knows. -/
def InT (n : Nat) (y : Int) : Prop := 0 ≤ y ∧ y.toNat < n
theorem InT.mono {n m : Nat} (h : n ≤ m) {y : Int} (hy : InT n y) : InT m y := ⟨hy.1, by have := hy.2; omega⟩
theorem TD.mono {p : PP} {D D' : Int → Prop} (hD : ∀ y, D y → D' y) {q : Nat} {t : Tup} (h : TD p D q t) : TD p D' q t := ⟨fun c hc => hD _ (h.1 c hc), h.2⟩
theorem RD'.mono {p : PP} {D D' : Int → Prop} (hD : ∀ y, D y → D' y) {R : List (List Tup)} (h : RD' p D R) : RD' p D' R := fun q t ht => (h q t ht).mono hD
theorem RuD.mono {p : PP} {D D' : Int → Prop} (hD : ∀ y, D y → D' y) {r : PR} (h : RuD p D r) : RuD p D' r :=
  ⟨⟨h.1.1, h.1.2.1, fun c hc => ⟨(h.1.2.2 c hc).1, fun e => hD _ ((h.1.2.2 c hc).2 e)⟩⟩, fun l hl => ⟨(h.2.1 l hl).1, (h.2.1 l hl).2.1, fun c hc => ⟨((h.2.1 l hl).2.2 c hc).1, fun e => hD _ (((h.2.1 l hl).2.2 c hc).2 e)⟩⟩, h.2.2⟩
/-- A policy that the loader has let through. -/
structure PgG (p : PP) : Prop where
  pok : PPok p
  nob : NoBase p
  pool : NmOk p.pool
  rul : ∀ r ∈ p.rules, RuD p (InT p.pool.length) r
/-- An instance as the service keeps it, with all that is true of it. -/
structure InG (t : InsS) : Prop where
  pg : PgG t.p
  nn : NmOk t.N
  nl : t.N.length ≤ 256
  pre : t.p.pool <+: t.N
  inv : RInv t.p t.R
  cap : overB t.R = false
  der : PerfTo t.p 0 (basR t.p t.R) t.R
  dom : RD' t.p (InT t.N.length) (basR t.p t.R)
  cnt : Cnt t.p (basR t.p t.R) t
theorem InG.rd {t : InsS} (h : InG t) : RD' t.p (InT t.N.length) t.R := h.der.dom (fun r hr => (h.pg.rul r hr).mono (fun y hy => hy.mono h.pre.length_le)) h.dom
theorem InG.ok {t : InsS} (h : InG t) : InOk t := ⟨h.pg.pok, h.pg.pool.1, h.nl, h.inv, h.cap, fun q x hx c hc => ((h.rd q x hx).1 c hc).2⟩
/-- Every value of a fact, base or derived, is in use. -/
theorem InG.used {t : InsS} (h : InG t) : RD' t.p (fun y => 0 ≤ y ∧ 0 < useN t.p (basR t.p t.R) y.toNat) t.R := by
  have h1 : ∀ y, InT t.p.pool.length y → (0 ≤ y ∧ 0 < useN t.p (basR t.p t.R) y.toNat) := fun y hy => by
    refine ⟨hy.1, ?_⟩
    unfold useN
    rw [if_pos hy.2]; omega
  have h2 : RD' t.p (fun y => 0 ≤ y ∧ 0 < useN t.p (basR t.p t.R) y.toNat) (basR t.p t.R) := by
    intro q x hx
    refine ⟨fun c hc => ⟨((h.dom q x hx).1 c hc).1, ?_⟩, (h.dom q x hx).2⟩
    have hq : q < t.p.preds.length ∧ (pI t.p q).base = true := by
      apply Classical.byContradiction
      intro hn
      have : rowsAt (basR t.p t.R) q = [] := by
        by_cases hl : q < t.p.preds.length
        · refine basR_ok.2 q ?_
          cases hb : (pI t.p q).base with
          | true => exact absurd ⟨hl, hb⟩ hn
          | false => rfl
        · unfold rowsAt
          rw [List.getD_eq_getElem?_getD, List.getElem?_eq_none (by rw [basR_len]; omega)]; rfl
      rw [this] at hx; cases hx
    have := occ_pos.2 ⟨q, hq.1, hq.2, x, hx, c, hc, rfl⟩
    unfold useN
    omega
  exact h.der.dom (fun r hr => (h.pg.rul r hr).mono h1) h2
theorem livN_le (U : Nat → Int) : livN U ≤ 256 := cntB_le _ _
theorem InG.live {t : InsS} (h : InG t) : 0 ≤ t.live ∧ t.live ≤ 256 := by
  rw [h.cnt.lv]
  have := livN_le t.U
  omega
theorem useN_le {p : PP} (hp : PPok p) {R : List (List Tup)} (hc : overB R = false) (y : Nat) : useN p (basR p R) y ≤ 131073 := by
  have h1 : occ p (basR p R) y ≤ p.preds.length * 2048 := sumN_le fun q hq => by
    unfold occF
    by_cases hb : (pI p q).base = true
    · rw [if_pos hb, rowsAt_some (basR_at p R hq), if_pos hb]
      have h2 := occL_le (rowsAt R q) (arP p q) y
      have h3 := (pI_ar hp hq).2
      have h4 : (rowsAt R q).length ≤ 512 := by
        by_cases hr : q < R.length
        · exact cap_of hc _ (by unfold rowsAt; rw [List.getD_eq_getElem?_getD, List.getElem?_eq_getElem hr]; exact List.getElem_mem hr)
        · unfold rowsAt; rw [List.getD_eq_getElem?_getD, List.getElem?_eq_none (by omega)]; simp
      have h5 : (rowsAt R q).length * arP p q ≤ 512 * 4 := Nat.mul_le_mul h4 h3
      omega
    · rw [if_neg hb]; omega
  have h2 := hp.nD
  have h3 : p.preds.length * 2048 ≤ 64 * 2048 := Nat.mul_le_mul_right _ h2
  unfold useN
  by_cases e : y < p.pool.length
  · rw [if_pos e]; omega
  · rw [if_neg e]; omega
theorem InG.ub {t : InsS} (h : InG t) : UB 200000 t := by
  have hl := h.live
  refine ⟨fun z hz => ?_, by omega, by omega⟩
  rw [h.cnt.us z hz]
  have := useN_le h.pg.pok h.cap z
  omega
/-- A batch that is let through. -/
theorem chgs_dom {p : PP} {n : Nat} : ∀ (cs : List Change) (i : Nat) (B : List (List Tup)), B.length = p.preds.length → RD' p (InT n) B → (∀ ch ∈ cs, ChB p ch ∧ (ch.del = false → TD p (InT n) ch.pred.toNat ch.t)) → (chgs cs i B).1 = 0 → RD' p (InT n) (chgs cs i B).2.2
  | [], _, _, _, hD, _, _ => hD
  | ch :: cs, i, B, hl, hD, hc, h0 => by
    unfold chgs at h0 ⊢
    by_cases e : (changeF B ch).1 ≠ 0
    · rw [if_pos e] at h0; exact absurd h0 e
    · rw [if_neg e] at h0 ⊢
      have e' : (changeF B ch).1 = 0 := Decidable.of_not_not e
      obtain ⟨hb, ht⟩ := hc ch List.mem_cons_self
      have hq : ch.pred.toNat < B.length := by rw [hl]; exact hb.1.2.1
      refine chgs_dom cs (i + 1) _ ((changeF_len B ch).trans hl) (fun q x hx => ?_) (fun y hy => hc y (List.mem_cons_of_mem _ hy)) h0
      rcases changeF_set e' with ⟨-, -, e2⟩ | ⟨hd, -, e2⟩
      · rw [e2, rowsAt_set hq] at hx
        by_cases e3 : q = ch.pred.toNat
        · rw [if_pos e3] at hx
          rw [e3]
          exact hD _ x (List.mem_filter.1 hx).1
        · rw [if_neg e3] at hx; exact hD q x hx
      · rw [e2, rowsAt_set hq] at hx
        by_cases e3 : q = ch.pred.toNat
        · rw [if_pos e3] at hx
          rw [e3]
          rcases List.mem_append.1 hx with h1 | h1
          · exact hD _ x h1
          · rw [List.mem_singleton.1 h1]; exact ht hd
        · rw [if_neg e3] at hx; exact hD q x hx
/-- The table grows. -/
structure NEx (N N' : List (List UInt8)) : Prop where
  pre : N <+: N'
  nn : NmOk N'
  nl : N'.length ≤ 256
theorem InG.tab {t : InsS} (h : InG t) {N' : List (List UInt8)} (hN : NEx t.N N') : InG (t.tab N') := ⟨h.pg, hN.nn, hN.nl, h.pre.trans hN.pre, h.inv, h.cap, h.der, h.dom.mono (fun y hy => hy.mono hN.pre.length_le), ⟨h.cnt.us, h.cnt.lv⟩⟩
theorem BatR.zero {p : PP} {R : List (List Tup)} {cs : List Change} {ix : Int} {R' : List (List Tup)} (h : BatR p R cs 0 ix R') : (chgs cs 0 (basR p R)).1 = 0 ∧ PerfTo p 0 (chgs cs 0 (basR p R)).2.2 R' ∧ RInv p R' ∧ overB R' = false ∧ ix = -1 := by
  rcases h with ⟨h1, h2, -, -⟩ | ⟨h1, P, h2, h3, h4, h5, h6⟩
  · exact absurd h2.symm h1
  · by_cases e : overB P = true
    · rw [if_pos e] at h4; cases h4
    · rw [if_neg e] at h6
      subst h6
      exact ⟨h1, h2, h3, by simpa using e, h5⟩
theorem InG.bat {t : InsS} (h : InG t) {N' : List (List UInt8)} (hN : NEx t.N N') {cs : List Change} (hc : ∀ ch ∈ cs, ChB t.p ch ∧ (ch.del = false → TD t.p (InT N'.length) ch.pred.toNat ch.t)) {ix : Int} {R' : List (List Tup)} (hB : BatR t.p t.R cs 0 ix R') : InG (cs.foldl setS ((t.tab N').rel R')) := by
  obtain ⟨h1, h2, h3, h4, -⟩ := hB.zero
  obtain ⟨e1, e2, e3⟩ := setsS_p cs ((t.tab N').rel R')
  obtain ⟨c1, c2, c3⟩ := Cnt.chgs h.pg.pok cs 0 (basR t.p t.R) ((t.tab N').rel R') basR_ok (basR_inv h.inv) rfl ⟨h.cnt.us, h.cnt.lv⟩ (fun ch hch => (hc ch hch).1) h1
  have hbr : basR t.p R' = (chgs cs 0 (basR t.p t.R)).2.2 := h2.basR h.pg.nob c2
  have hdom := chgs_dom cs 0 (basR t.p t.R) (basR_len _ _) (h.dom.mono (fun y hy => hy.mono hN.pre.length_le)) hc h1
  refine ⟨?_, ?_, ?_, ?_, ?_, ?_, ?_, ?_, ?_⟩
  · rw [e1]; exact h.pg
  · rw [e2]; exact hN.nn
  · rw [e2]; exact hN.nl
  · rw [e1, e2]; exact h.pre.trans hN.pre
  · rw [e1, e3]; exact h3
  · rw [e3]; exact h4
  · rw [e1, e3]; show PerfTo t.p 0 (basR t.p R') R'; rw [hbr]; exact h2
  · rw [e1, e2, e3]; show RD' t.p (InT N'.length) (basR t.p R'); rw [hbr]; exact hdom
  · rw [e1, e3]; show Cnt t.p (basR t.p R') _; rw [hbr]; exact c1
/-- A new instance. -/
theorem livN_pool {n : Nat} (hn : n ≤ 256) : livN (poolU n) = n := by
  have key : ∀ m, m ≤ 256 → cntB (fun y => decide (0 < poolU n y)) m = min m n := by
    intro m
    induction m with
    | zero => intro _; simp [cntB]
    | succ m ih =>
      intro hm
      unfold cntB
      rw [ih (by omega)]
      unfold poolU
      by_cases e : m < n
      · rw [if_pos e, if_pos (by decide)]; omega
      · rw [if_neg e, if_neg (by decide)]; omega
  have := key 256 (Nat.le_refl _)
  unfold livN
  omega
theorem InG.new {p : PP} (hp : PgG p) {P : List (List Tup)} (hF : Fst p P) (hc : overB P = false) : InG (newS p P p.pool.length) := by
  have hbr : basR p P = basR p (List.replicate p.preds.length []) := hF.1.basR hp.nob basR_ok
  have hemp : ∀ q, rowsAt (basR p (List.replicate p.preds.length [])) q = [] := fun q => by
    by_cases hl : q < p.preds.length
    · rw [rowsAt_some (basR_at p _ hl)]
      have : rowsAt (List.replicate p.preds.length ([] : List Tup)) q = [] := by
        unfold rowsAt
        rw [List.getD_eq_getElem?_getD, List.getElem?_replicate, if_pos hl]; rfl
      rw [this]
      cases (pI p q).base <;> rfl
    · unfold rowsAt
      rw [List.getD_eq_getElem?_getD, List.getElem?_eq_none (by rw [basR_len]; omega)]; rfl
  have hoc : ∀ y, occ p (basR p P) y = 0 := fun y => sumN_zero fun q _ => by
    unfold occF
    rw [hbr, hemp]
    cases (pI p q).base <;> simp [occL]
  refine ⟨hp, hp.pool, hp.pok.nP, List.prefix_refl _, hF.2, hc, ?_, fun q x hx => ?_, ⟨fun y hy => ?_, ?_⟩⟩
  · show PerfTo p 0 (basR p P) P
    rw [hbr]; exact hF.1
  · have hx' : x ∈ rowsAt (basR p P) q := hx
    rw [hbr, hemp] at hx'; cases hx'
  · show poolU p.pool.length y = (useN p (basR p P) y : Int)
    unfold poolU useN
    rw [hoc]
    by_cases e : y < p.pool.length
    · rw [if_pos e, if_pos e]; rfl
    · rw [if_neg e, if_neg e]; rfl
  · show (p.pool.length : Int) = (livN (poolU p.pool.length) : Int)
    rw [livN_pool hp.pok.nP]
/-! ### Names interned -/
theorem lookF_mem {N : List (List UInt8)} {nm : List UInt8} (h : lookF N nm = -1) : nm ∉ N := fun hm => by
  obtain ⟨j, hj⟩ := List.getElem?_of_mem hm
  have : ∀ {N : List (List UInt8)} {j : Nat}, N[j]? = some nm → lookF N nm ≠ -1 := by
    intro N
    induction N with
    | nil => intro j hj; simp at hj
    | cons x N ih =>
      intro j hj
      unfold lookF
      by_cases e : x = nm
      · rw [if_pos e]; decide
      · rw [if_neg e]
        cases j with
        | zero => exact absurd (Option.some.inj hj) e
        | succ j =>
          have := ih (j := j) hj
          rw [if_neg this]
          have := lookF_ge N nm
          omega
  exact this hj h
theorem internF_ex {N : List (List UInt8)} (hN : NmOk N) (hl : N.length ≤ 256) {nm : List UInt8} (h64 : nm.length ≤ 64) : NEx N (internF N nm).2.2 := by
  unfold internF
  by_cases e : lookF N nm ≠ -1
  · rw [if_pos e]; exact ⟨List.prefix_refl _, hN, hl⟩
  · rw [if_neg e]
    by_cases e2 : N.length = 256
    · rw [if_pos e2]; exact ⟨List.prefix_refl _, hN, hl⟩
    · rw [if_neg e2]
      have hm := lookF_mem (Decidable.of_not_not e)
      refine ⟨List.prefix_append _ _, ⟨?_, fun y hy => ?_⟩, ?_⟩
      · rw [List.nodup_append]
        exact ⟨hN.1, by simp, fun a h1 b h2 => by rw [List.mem_singleton.1 h2]; intro h9; exact hm (h9 ▸ h1)⟩
      · rcases List.mem_append.1 hy with h1 | h1
        · exact hN.2 y h1
        · rw [List.mem_singleton.1 h1]; exact h64
      · show (N ++ [nm]).length ≤ 256
        rw [List.length_append]; simp; omega
theorem NEx.refl {N : List (List UInt8)} (hN : NmOk N) (hl : N.length ≤ 256) : NEx N N := ⟨List.prefix_refl _, hN, hl⟩
theorem NEx.trans {N N1 N2 : List (List UInt8)} (h : NEx N N1) (h' : NEx N1 N2) : NEx N N2 := ⟨h.pre.trans h'.pre, h'.nn, h'.nl⟩
theorem getD64 {args : List (List UInt8)} (ha : ∀ x ∈ args, x.length ≤ 64) (c : Nat) : (args.getD c []).length ≤ 64 := by
  rw [List.getD_eq_getElem?_getD]
  cases h : args[c]? with
  | none => simp
  | some x => exact ha x (List.mem_of_getElem? h)
theorem nmS_ex {N args : List (List UInt8)} (hN : NmOk N) (hl : N.length ≤ 256) (ha : ∀ x ∈ args, x.length ≤ 64) : ∀ c, NEx N (nmS N args c)
  | 0 => NEx.refl hN hl
  | c + 1 => by
    have ih := nmS_ex hN hl ha c
    exact ih.trans (internF_ex ih.nn ih.nl (getD64 ha c))
theorem nmS_mono {N args : List (List UInt8)} (hN : NmOk N) (hl : N.length ≤ 256) (ha : ∀ x ∈ args, x.length ≤ 64) : ∀ {c d : Nat}, c ≤ d → (nmS N args c).length ≤ (nmS N args d).length := by
  intro c d h
  obtain ⟨k, rfl⟩ : ∃ k, d = c + k := ⟨d - c, by omega⟩
  clear h
  induction k with
  | zero => exact Nat.le_refl _
  | succ k ih =>
    have h1 := nmS_ex hN hl ha (c + k)
    have h2 := (internF_ex h1.nn h1.nl (getD64 ha (c + k))).pre.length_le
    exact Nat.le_trans ih h2
/-- The tuple of interned names. -/
theorem intT_td {p : PP} {q : Nat} {N args : List (List UInt8)} (hN : NmOk N) (hl : N.length ≤ 256) (ha : ∀ x ∈ args, x.length ≤ 64) (hq : args.length = arP p q) (hc : ∀ c, c < args.length → nmC N args c = 0) : TD p (InT (nmS N args args.length).length) q (mkT (nmV N args) args.length) := by
  refine ⟨fun c hcq => ?_, fun c h1 h2 => ?_⟩
  · rw [← hq] at hcq
    by_cases h4 : c < 4
    · rw [tg_mkT _ _ _ h4, if_pos hcq]
      have h1 := nmS_ex hN hl ha c
      have h2 := internF_val h1.nl (args.getD c []) (hc c hcq)
      have h3 := nmS_mono hN hl ha (c := c + 1) (d := args.length) hcq
      exact ⟨h2.1, Nat.lt_of_lt_of_le h2.2.1 h3⟩
    · have : tg (mkT (nmV N args) args.length) c = 0 := by
        unfold tg
        rw [List.getD_eq_getElem?_getD, List.getElem?_eq_none (by simp; omega)]; rfl
      rw [this]
      have h1 := nmS_ex hN hl ha 0
      have h2 := internF_val h1.nl (args.getD 0 []) (hc 0 (by omega))
      have h3 := nmS_mono hN hl ha (c := 1) (d := args.length) (by omega)
      refine ⟨by omega, ?_⟩
      have h5 : (internF (nmS N args 0) (args.getD 0 [])).2.2.length = (nmS N args 1).length := rfl
      have h6 := h2.2.1
      show 0 < _
      omega
  · rw [tg_mkT _ _ _ h2, if_neg (by rw [hq]; omega)]
theorem intF_td {p : PP} {q : Nat} {N args : List (List UInt8)} (hN : NmOk N) (hl : N.length ≤ 256) (ha : ∀ x ∈ args, x.length ≤ 64) (hq : args.length = arP p q) (hc : (intF N args).1 = 0) : TD p (InT (intF N args).2.2.length) q (intF N args).2.1 := by
  unfold intF at hc ⊢
  dsimp only at hc ⊢
  rw [if_pos hc]
  exact intT_td hN hl ha hq (intCode_all hc)
end Go.Proofs.Qxb6500787aGreat
