
import Derived.Test.Qxb6500787aGreatXa
import Derived.StillTailTactics
import Derived.Deep.QuietTactic
import Derived.BigQuiet
import Derived.Deep.RegionHeld
import Derived.Deep.CutRange
import Derived.Laws.ResultCell
import Derived.Laws.Rows
import Derived.DeepKeys
import Derived.DataBytes
import Derived.Laws.StructEq
import Derived.Laws.AppendOwn
import Derived.Laws.MakeOwn
import Derived.Lib.AppendStr
set_option linter.unusedSimpArgs false
set_option linter.unusedVariables false
namespace Go.Proofs.Qxb6500787aGreat
open Go.RowKit Go.Blk
attribute [local go_sem ↓] execOp_load execOp_store execOp_alloc
attribute [local go_sem] Tryz.ld26 Tryz.st26 Tryz.ld27 Tryz.st27 Tryz.ld28 Tryz.st28 Tryz.ld3 Tryz.st3 Tryz.ld29 Tryz.st29 Tryz.ld44 Tryz.st44 Tryz.ld4 Tryz.st4 Tryz.ld50 Tryz.st50 Tryz.ld32 Tryz.st32 Tryz.ld49 Tryz.st49 Tryz.ld68 Tryz.st68 Tryz.ld9 Tryz.st9 Tryz.ld40 Tryz.st40 Tryz.ld138 Tryz.st138 Tryz.ld139 Tryz.st139 Tryz.ld146 Tryz.st146 Tryz.ld183 Tryz.st183 Tryz.ld184 Tryz.st184 Tryz.ld192 Tryz.st192 Tryz.ld195 Tryz.st195 Tryz.ld217 Tryz.st217 Tryz.ld159 Tryz.st159 Tryz.ld142 Tryz.st142 Tryz.ld2 Tryz.st2 Tryz.ld5 Tryz.st5 Tryz.ld12 Tryz.st12 Tryz.ld21 Tryz.st21 Tryz.ld22 Tryz.st22 Tryz.ld24 Tryz.st24 Tryz.ld58 Tryz.st58 Tryz.ld97 Tryz.st97 Tryz.ld101 Tryz.st101 Tryz.ld116 Tryz.st116 Tryz.ld121 Tryz.st121 Tryz.ld135 Tryz.st135 Tryz.ld136 Tryz.st136 Tryz.ld143 Tryz.st143 Tryz.ld148 Tryz.st148 Tryz.ld154 Tryz.st154 Tryz.ld173 Tryz.st173 Tryz.ld187 Tryz.st187 Tryz.ld222 Tryz.st222 Tryz.ld241 Tryz.st241 Tryz.ld248 Tryz.st248 Tryz.ld268 Tryz.st268 Tryz.ld272 Tryz.st272 Tryz.ld153 Tryz.st153 Tryz.ld255 Tryz.st255 Tryz.ld256 Tryz.st256 Tryz.ld129 Tryz.st129 Tryz.ld152 Tryz.st152 Tryz.ld31 Tryz.st31 Tryz.ld46 Tryz.st46 Tryz.ld52 Tryz.st52 Tryz.ld54 Tryz.st54 Tryz.ld60 Tryz.st60 Tryz.ld70 Tryz.st70 Tryz.ld74 Tryz.st74 Tryz.ld93 Tryz.st93 Tryz.ld141 Tryz.st141 Tryz.ld151 Tryz.st151 Tryz.ld170 Tryz.st170 Tryz.ld186 Tryz.st186 Tryz.ld189 Tryz.st189 Tryz.ld194 Tryz.st194 Tryz.ld197 Tryz.st197 Tryz.ld219 Tryz.st219 Tryz.ld224 Tryz.st224 Tryz.ld230 Tryz.st230 Tryz.ld235 Tryz.st235 Tryz.ld243 Tryz.st243 Tryz.ld247 Tryz.st247 Tryz.ld252 Tryz.st252 Tryz.ld258 Tryz.st258 Tryz.al153 Tryz.al255 Tryz.al256 Tryz.al129 Tryz.al152 Tryz.al31 Tryz.al46 Tryz.al52 Tryz.al54 Tryz.al60 Tryz.al70 Tryz.al74 Tryz.al93 Tryz.al141 Tryz.al151 Tryz.al170 Tryz.al186 Tryz.al189 Tryz.al194 Tryz.al197 Tryz.al219 Tryz.al224 Tryz.al230 Tryz.al235 Tryz.al243 Tryz.al247 Tryz.al252 Tryz.al258
attribute [local go_sem] Request.length_enc Request.ok_enc Request.all_get Request.all_set Request.kind_get Request.kind_set Request.blob_get Request.blob_set Request.items_get Request.items_set Request.pred_get Request.pred_set Request.slots_get Request.slots_set Trace.length_enc Trace.ok_enc Trace.all_get Trace.all_set Trace.op_get Trace.op_set Trace.calls_get Trace.calls_set Item.length_enc Item.ok_enc Item.all_get Item.all_set Item.del_get Item.del_set Item.pred_get Item.pred_set Item.args_get Item.args_set Reply.length_enc Reply.ok_enc Reply.all_get Reply.all_set Reply.code_get Reply.code_set Reply.kind_get Reply.kind_set Reply.index_get Reply.index_set Reply.yes_get Reply.yes_set Reply.preds_get Reply.preds_set Reply.rules_get Reply.rules_set Reply.arity_get Reply.arity_set Reply.rows_get Reply.rows_set Reply.fact_get Reply.fact_set Reply.fact_del_get Reply.fact_del_set Reply.fact_pred_get Reply.fact_pred_set Reply.fact_args_get Reply.fact_args_set GEntry.length_enc GEntry.ok_enc GEntry.all_get GEntry.all_set GEntry.seq_get GEntry.seq_set GEntry.kind_get GEntry.kind_set GEntry.code_get GEntry.code_set GOp.length_enc GOp.ok_enc GOp.all_get GOp.all_set GOp.kind_get GOp.kind_set GOp.raw_get GOp.raw_set Reader.length_enc Reader.ok_enc Reader.all_get Reader.all_set Reader.buf_get Reader.buf_set Reader.at__get Reader.at__set Slot.length_enc Slot.ok_enc Slot.all_get Slot.all_set Slot.bound_get Slot.bound_set Slot.name_get Slot.name_set Session.length_enc Session.ok_enc Session.all_get Session.all_set Session.svc_get Session.svc_set Session.buf_get Session.buf_set Session.closed_get Session.closed_set GProgram.length_enc GProgram.ok_enc GProgram.all_get GProgram.all_set GProgram.pool_get GProgram.pool_set GProgram.preds_get GProgram.preds_set GProgram.rules_get GProgram.rules_set GProgram.strata_get GProgram.strata_set PredInfo.length_enc PredInfo.ok_enc PredInfo.all_get PredInfo.all_set PredInfo.arity_get PredInfo.arity_set PredInfo.base_get PredInfo.base_set PredInfo.stratum_get PredInfo.stratum_set Change.length_enc Change.ok_enc Change.all_get Change.all_set Change.del_get Change.del_set Change.pred_get Change.pred_set Change.t_get Change.t_set Store.length_enc Store.ok_enc Store.all_get Store.all_set Store.names_get Store.names_set Store.arity_get Store.arity_set Store.rows_get Store.rows_set Src.length_enc Src.ok_enc Src.all_get Src.all_set Src.b_get Src.b_set Src.at__get Src.at__set Atom.length_enc Atom.ok_enc Atom.all_get Atom.all_set Atom.pred_get Atom.pred_set Atom.args_get Atom.args_set GRule.length_enc GRule.ok_enc GRule.all_get GRule.all_set GRule.head_get GRule.head_set GRule.body_get GRule.body_set GRule.head_pred_get GRule.head_pred_set GRule.head_args_get GRule.head_args_set Cert.length_enc Cert.ok_enc Cert.all_get Cert.all_set Cert.names_get Cert.names_set Cert.nodes_get Cert.nodes_set Fact.length_enc Fact.ok_enc Fact.all_get Fact.all_set Fact.pred_get Fact.pred_set Fact.t_get Fact.t_set Literal.length_enc Literal.ok_enc Literal.all_get Literal.all_set Literal.neg_get Literal.neg_set Literal.atom_get Literal.atom_set Literal.atom_pred_get Literal.atom_pred_set Literal.atom_args_get Literal.atom_args_set Engine.length_enc Engine.ok_enc Engine.all_get Engine.all_set Engine.prog_get Engine.prog_set Engine.st_get Engine.st_set SrcCertm.length_enc SrcCertm.ok_enc SrcCertm.all_get SrcCertm.all_set SrcCertm.b_get SrcCertm.b_set SrcCertm.at__get SrcCertm.at__set GNode.length_enc GNode.ok_enc GNode.all_get GNode.all_set GNode.rule_get GNode.rule_set GNode.pred_get GNode.pred_set GNode.vals_get GNode.vals_set GNode.refs_get GNode.refs_set Term.length_enc Term.ok_enc Term.all_get Term.all_set Term.var_get Term.var_set Term.n_get Term.n_set Env.length_enc Env.ok_enc Env.all_get Env.all_set Env.val_get Env.val_set Env.set_get Env.set_set
attribute [local go_sem] size_put size_ext blk_put free_put blk_alloc free_alloc blk_drew free_drew blk_ext free_ext lookOr_some putOr_some segAt_some cellAt_some storeIn_some put_put put_alloc_new length_arr ok_arr_u8 ok_arr_u32 ok_arr_u64 ok_arr_i64 ok_arr_sl cellsV_agg cellsV_int cellsV_bool cellsV_string cellsV_pointer cellsV_slice cellsV_sl ok_int ok_bool ok_string ok_pointer ok_slice ok_sl toList_arr seg_arr set_arr nth_splice nth_splice0 seg_splice seg_splice0 splice_splice splice_splice0 length_splice_if
attribute [local go_sem ↓] execOp_box
attribute [local go_sem] box_run nth_arr_u8 put_arr_u8 blk_drewN free_drewN put_drewN blk_raw free_raw
/-- Only base relations hold facts. -/
def BasOk (p : PP) (B : List (List Tup)) : Prop := B.length = p.preds.length ∧ ∀ q, (pI p q).base = false → rowsAt B q = []
def ChB (p : PP) (ch : Change) : Prop := ChOk p.preds.length ch ∧ (pI p ch.pred.toNat).base = true
theorem changeF_set {B : List (List Tup)} {ch : Change} (h : (changeF B ch).1 = 0) : (ch.del = true ∧ ch.t ∈ rowsAt B ch.pred.toNat ∧ (changeF B ch).2 = B.set ch.pred.toNat (delT (rowsAt B ch.pred.toNat) ch.t)) ∨ (ch.del = false ∧ ch.t ∉ rowsAt B ch.pred.toNat ∧ (changeF B ch).2 = B.set ch.pred.toNat (rowsAt B ch.pred.toNat ++ [ch.t])) := by
  unfold changeF at h ⊢
  cases hd : ch.del with
  | true =>
    rw [hd, if_pos rfl] at h
    rw [if_pos rfl]
    by_cases e : ch.t ∈ rowsAt B ch.pred.toNat
    · rw [if_pos e]; exact .inl ⟨rfl, e, rfl⟩
    · rw [if_neg e] at h; cases h
  | false =>
    rw [hd, if_neg (by decide)] at h
    rw [if_neg (by decide)]
    by_cases e : ch.t ∈ rowsAt B ch.pred.toNat
    · rw [if_pos e] at h; cases h
    · rw [if_neg e]; exact .inr ⟨rfl, e, rfl⟩
theorem BasOk.change {p : PP} {B : List (List Tup)} (h : BasOk p B) {ch : Change} (hc : ChB p ch) (h0 : (changeF B ch).1 = 0) : BasOk p (changeF B ch).2 := by
  refine ⟨(changeF_len B ch).trans h.1, fun q hq => ?_⟩
  have hl : ch.pred.toNat < B.length := by rw [h.1]; exact hc.1.2.1
  have hne : q ≠ ch.pred.toNat := fun e => by rw [e, hc.2] at hq; cases hq
  rcases changeF_set h0 with ⟨-, -, e⟩ | ⟨-, -, e⟩ <;> (rw [e, rowsAt_set hl, if_neg hne]; exact h.2 q hq)
theorem Cnt.step {p : PP} (hp : PPok p) {B : List (List Tup)} (hB : BasOk p B) (hI : RInv p B) {s : InsS} (hs : s.p = p) (h : Cnt p B s) {ch : Change} (hc : ChB p ch) (h0 : (changeF B ch).1 = 0) : Cnt p (changeF B ch).2 (setS s ch) := by
  have hl : ch.pred.toNat < B.length := by rw [hB.1]; exact hc.1.2.1
  have ht : TOk ch.t := changeF_t hI hc.1 h0
  obtain ⟨ha1, ha2⟩ := pI_ar hp hc.1.2.1
  have es : setS s ch = useS s ch (arP p ch.pred.toNat) := by unfold setS arP; rw [hs]
  rcases changeF_set h0 with ⟨hd, hm, e⟩ | ⟨hd, hm, e⟩
  · have hnd := (hI.1.at ch.pred.toNat).1
    have hoc : ∀ y, occ p (changeF B ch).2 y + colN ch.t (arP p ch.pred.toNat) y = occ p B y := fun y => by
      have h1 := occ_set hl hc.1.2.1 hc.2 (delT (rowsAt B ch.pred.toNat) ch.t) y
      have h2 := occL_del hnd hm (arP p ch.pred.toNat) y
      rw [e]; omega
    obtain ⟨h1, h2⟩ := useS_del hd ht ha2 (fun y hy => by
      rw [h.us y hy]
      have := hoc y
      unfold useN
      omega) h.lv (arP p ch.pred.toNat) (Nat.le_refl _)
    rw [es]
    refine ⟨fun y hy => ?_, h2⟩
    rw [h1, h.us y hy]
    have := hoc y
    unfold useN
    omega
  · have hoc : ∀ y, occ p (changeF B ch).2 y = occ p B y + colN ch.t (arP p ch.pred.toNat) y := fun y => by
      have h1 := occ_set hl hc.1.2.1 hc.2 (rowsAt B ch.pred.toNat ++ [ch.t]) y
      rw [occL_append] at h1
      rw [e]; omega
    obtain ⟨h1, h2⟩ := useS_ins hd ht (fun y hy => by rw [h.us y hy]; omega) h.lv (arP p ch.pred.toNat) ha2
    rw [es]
    refine ⟨fun y hy => ?_, h2⟩
    rw [h1, h.us y hy]
    have := hoc y
    unfold useN
    omega
/-- The counts after a batch of changes. -/
theorem Cnt.chgs {p : PP} (hp : PPok p) : ∀ (cs : List Change) (i : Nat) (B : List (List Tup)) (s : InsS), BasOk p B → RInv p B → s.p = p → Cnt p B s → (∀ ch ∈ cs, ChB p ch) → (Go.Proofs.Qxb6500787aGreat.chgs cs i B).1 = 0 → Cnt p (Go.Proofs.Qxb6500787aGreat.chgs cs i B).2.2 (cs.foldl setS s) ∧ BasOk p (Go.Proofs.Qxb6500787aGreat.chgs cs i B).2.2 ∧ RInv p (Go.Proofs.Qxb6500787aGreat.chgs cs i B).2.2
  | [], _, B, s, hB, hI, _, h, _, _ => ⟨h, hB, hI⟩
  | ch :: cs, i, B, s, hB, hI, hs, h, hc, h0 => by
    have hch := hc ch List.mem_cons_self
    unfold Go.Proofs.Qxb6500787aGreat.chgs at h0 ⊢
    by_cases e : (changeF B ch).1 ≠ 0
    · rw [if_pos e] at h0; exact absurd h0 e
    · rw [if_neg e] at h0 ⊢
      have e' : (changeF B ch).1 = 0 := Decidable.of_not_not e
      exact Cnt.chgs hp cs (i + 1) _ _ (hB.change hch e') (changeF_inv hI hch.1) ((setS_p s ch).1.trans hs) (h.step hp hB hI hs hch e') (fun x hx => hc x (List.mem_cons_of_mem _ hx)) h0
theorem basR_ok {p : PP} {R : List (List Tup)} : BasOk p (basR p R) := by
  refine ⟨basR_len p R, fun q hq => ?_⟩
  by_cases hl : q < p.preds.length
  · rw [rowsAt_some (basR_at p R hl), hq]; rfl
  · unfold rowsAt
    rw [List.getD_eq_getElem?_getD, List.getElem?_eq_none (by rw [basR_len]; omega)]; rfl
/-- The base relations of R are B. -/
theorem basR_eq {p : PP} {B R : List (List Tup)} (hB : BasOk p B) (h : ∀ q, (pI p q).base = true → rowsAt R q = rowsAt B q) : basR p R = B := by
  refine List.ext_getElem? fun q => ?_
  by_cases hl : q < p.preds.length
  · rw [basR_at p R hl]
    have e : B[q]? = some (rowsAt B q) := by
      unfold rowsAt
      rw [List.getD_eq_getElem?_getD, List.getElem?_eq_getElem (by rw [hB.1]; exact hl)]; rfl
    rw [e]
    cases hb : (pI p q).base with
    | true => rw [if_pos rfl, h q hb]
    | false => rw [if_neg (by decide), hB.2 q hb]
  · rw [List.getElem?_eq_none (by rw [basR_len]; omega), List.getElem?_eq_none (by rw [hB.1]; omega)]
/-- No head is a base predicate. -/
def NoBase (p : PP) : Prop := ∀ r ∈ p.rules, (pI p r.head.pred).base = false
theorem rowsAt_addR (R : List (List Tup)) (h : Nat) (t : Tup) {q : Nat} (hq : q ≠ h) : rowsAt (addR R h t) q = rowsAt R q := by
  unfold addR
  show (R.set h _).getD q [] = R.getD q []
  rw [List.getD_eq_getElem?_getD, List.getD_eq_getElem?_getD, List.getElem?_set, if_neg (fun e => hq e.symm)]
theorem step_base {h q : Nat} (hq : q ≠ h) : ∀ (ts : List Tup) (X : List (List Tup) × Bool), rowsAt (ts.foldl (stepT h) X).1 q = rowsAt X.1 q
  | [], _ => rfl
  | t :: ts, X => by
    rw [List.foldl_cons, step_base hq ts]
    unfold stepT
    by_cases hm : t ∈ rowsAt X.1 h
    · rw [if_pos hm]
    · rw [if_neg hm]; exact rowsAt_addR _ _ _ hq
theorem rnd_base {p : PP} (hN : NoBase p) {s q : Nat} (hq : (pI p q).base = true) : ∀ (rs : List PR) (X : List (List Tup) × Bool), (∀ r ∈ rs, r ∈ p.rules) → rowsAt (rnd p s rs X).1 q = rowsAt X.1 q
  | [], _, _ => rfl
  | r :: rs, X, hr => by
    have hr' : ∀ r ∈ rs, r ∈ p.rules := fun x hx => hr x (List.mem_cons_of_mem _ hx)
    have hne : q ≠ r.head.pred := fun e => by rw [e, hN r (hr r List.mem_cons_self)] at hq; cases hq
    unfold rnd
    by_cases hs : (pI p r.head.pred).stratum ≠ (s : Int)
    · rw [if_pos hs]; exact rnd_base hN hq rs X hr'
    · rw [if_neg hs]
      dsimp only
      by_cases ho : overB ((fnd X.1 r).foldl (stepT r.head.pred) X).1 = true
      · rw [if_pos ho]; exact step_base hne _ _
      · rw [if_neg ho, rnd_base hN hq rs _ hr']; exact step_base hne _ _
theorem PerfTo.base {p : PP} (hN : NoBase p) {s : Nat} {R R1 : List (List Tup)} (h : PerfTo p s R R1) {q : Nat} (hq : (pI p q).base = true) : rowsAt R1 q = rowsAt R q := by
  induction h with
  | fin => rfl
  | stop s R R1 g hs hr => have := rnd_base hN (s := s) hq p.rules (R, false) (fun _ h => h); rw [hr] at this; exact this
  | again s R R1 R2 hs hr _ ih => have := rnd_base hN (s := s) hq p.rules (R, false) (fun _ h => h); rw [hr] at this; exact ih.trans this
  | next s R R1 R2 hs hr _ ih => have := rnd_base hN (s := s) hq p.rules (R, false) (fun _ h => h); rw [hr] at this; exact ih.trans this
theorem PerfTo.basR {p : PP} (hN : NoBase p) {s : Nat} {B R : List (List Tup)} (h : PerfTo p s B R) (hB : BasOk p B) : Go.Proofs.Qxb6500787aGreat.basR p R = B := basR_eq hB (fun q hq => h.base hN hq)
/-! ### Where the values of derived tuples come from -/
/-- The columns of a tuple of predicate q are in D, the rest is 0. -/
def TD (p : PP) (D : Int → Prop) (q : Nat) (t : Tup) : Prop := (∀ c, c < arP p q → D (tg t c)) ∧ ∀ c, arP p q ≤ c → c < 4 → tg t c = 0
def RD' (p : PP) (D : Int → Prop) (R : List (List Tup)) : Prop := ∀ q, ∀ t ∈ rowsAt R q, TD p D q t
/-- The rules are range restricted, their constants are in D. -/
def AtD (p : PP) (D : Int → Prop) (a : PA) : Prop := a.args.length = arP p a.pred ∧ a.args.length ≤ 4 ∧ ∀ c, c < a.args.length → ((tA a c).var = true → 0 ≤ (tA a c).n ∧ (tA a c).n < 32) ∧ ((tA a c).var = false → D (tA a c).n)
def RuD (p : PP) (D : Int → Prop) (r : PR) : Prop := AtD p D r.head ∧ (∀ l ∈ r.body, AtD p D l.atom) ∧ resB r = true
/-- The set variables hold values of D. -/
def EnD (D : Int → Prop) (e : Env) : Prop := ∀ v, v < 32 → eS e v = true → D (eV e v)
def EnX (e e' : Env) : Prop := ∀ v, eS e v = true → eS e' v = true
/-- The variables of an atom are set. -/
def VSet (a : PA) (c : Nat) (e : Env) : Prop := ∀ i, i < c → (tA a i).var = true → eS e (tA a i).n.toNat = true
theorem uniF_D {p : PP} {D : Int → Prop} {a : PA} (ha : AtD p D a) {row : Tup} (hr : ∀ c, c < a.args.length → D (tg row c)) : ∀ (c : Nat) (e e' : Env), c ≤ a.args.length → EnD D e → uniF a row c e = some e' → EnD D e' ∧ EnX e e' ∧ VSet a c e'
  | 0, e, e', _, he, h => by
    cases h
    exact ⟨he, fun _ h => h, fun i hi => by omega⟩
  | c + 1, e, e', hc, he, h => by
    show _ ∧ _ ∧ _
    unfold uniF at h
    cases h1 : uniF a row c e with
    | none => rw [h1] at h; cases h
    | some e1 =>
      rw [h1] at h
      obtain ⟨i1, i2, i3⟩ := uniF_D ha hr c e e1 (by omega) he h1
      have h2 : uniS a row c e1 = some e' := h
      unfold uniS at h2
      have hcc : c < a.args.length := by omega
      cases hv : (tA a c).var with
      | true =>
        rw [hv, if_pos rfl] at h2
        have hn := (ha.2.2 c hcc).1 hv
        have hn' : (tA a c).n.toNat < 32 := by omega
        by_cases e2 : eS e1 (tA a c).n.toNat = true ∧ ¬ eV e1 (tA a c).n.toNat = tg row c
        · rw [if_pos e2] at h2; cases h2
        · rw [if_neg e2] at h2
          have h3 : eU e1 (tA a c).n.toNat (tg row c) = e' := Option.some.inj h2
          subst h3
          refine ⟨fun v hv2 hs => ?_, fun v hs => ?_, fun i hi hv2 => ?_⟩
          · rw [eV_eU e1 hn']
            rw [eS_eU e1 hn'] at hs
            by_cases e3 : v = (tA a c).n.toNat
            · rw [if_pos e3]; exact hr c hcc
            · rw [if_neg e3] at hs ⊢; exact i1 v hv2 hs
          · rw [eS_eU e1 hn']
            by_cases e3 : v = (tA a c).n.toNat
            · rw [if_pos e3]
            · rw [if_neg e3]; exact i2 v hs
          · rw [eS_eU e1 hn']
            by_cases e3 : (tA a i).n.toNat = (tA a c).n.toNat
            · rw [if_pos e3]
            · rw [if_neg e3]
              refine i3 i ?_ hv2
              by_cases e4 : i = c
              · subst e4; exact absurd rfl e3
              · omega
      | false =>
        rw [hv, if_neg (by decide)] at h2
        by_cases e2 : (tA a c).n = tg row c
        · rw [if_pos e2] at h2
          have h3 : e1 = e' := Option.some.inj h2
          subst h3
          refine ⟨i1, i2, fun i hi hv2 => ?_⟩
          by_cases e4 : i = c
          · subst e4; rw [hv] at hv2; cases hv2
          · exact i3 i (by omega) hv2
        · rw [if_neg e2] at h2; cases h2
/-- What matching finds. -/
def FoD (p : PP) (D : Int → Prop) (hd : PA) (Z : List PL) (e : Env) (t : Tup) : Prop := ∃ e', EnD D e' ∧ EnX e e' ∧ (∀ z ∈ Z, z.neg = false → VSet z.atom z.atom.args.length e') ∧ t = gA hd e'
theorem goM_D {p : PP} {D : Int → Prop} {S : List (List Tup)} (hS : RD' p D S) {Z0 : List PL} {hd : PA} : ∀ (Z : List PL) (e : Env) (out : List Tup), (∀ l ∈ Z, AtD p D l.atom) → EnD D e → ∀ t ∈ goM S Z0 hd Z e out, t ∈ out ∨ FoD p D hd Z e t
  | [], e, out, _, he, t, ht => by
    unfold goM at ht
    by_cases h : negs S Z0 e = true
    · rw [if_pos h] at ht
      rcases mem_addT.1 ht with h1 | h1
      · exact .inl h1
      · exact .inr ⟨e, he, fun _ h => h, (fun z hz => by cases hz), h1⟩
    · rw [if_neg h] at ht; exact .inl ht
  | z :: Z, e, out, hZ, he, t, ht => by
    have hZ' : ∀ l ∈ Z, AtD p D l.atom := fun l hl => hZ l (List.mem_cons_of_mem _ hl)
    rw [goM_cons] at ht
    cases hn : z.neg with
    | true =>
      rw [hn, if_pos rfl] at ht
      rcases goM_D hS Z e out hZ' he t ht with h | ⟨e', h1, h2, h3, h4⟩
      · exact .inl h
      · refine .inr ⟨e', h1, h2, fun l hl hln => ?_, h4⟩
        rcases List.mem_cons.1 hl with h5 | h5
        · rw [h5, hn] at hln; cases hln
        · exact h3 l h5 hln
    | false =>
      rw [hn, if_neg (by decide)] at ht
      have key : ∀ (rows : List Tup) (out : List Tup), (∀ x ∈ rows, TD p D z.atom.pred x) → ∀ t ∈ rows.foldl (stM S Z0 hd z Z e) out, t ∈ out ∨ FoD p D hd (z :: Z) e t := by
        intro rows
        induction rows with
        | nil => intro out _ t ht; exact .inl ht
        | cons row rows ih =>
          intro out hrows t ht
          rw [List.foldl_cons] at ht
          rcases ih _ (fun x hx => hrows x (List.mem_cons_of_mem _ hx)) t ht with h | h
          · unfold stM at h
            have hza := hZ z List.mem_cons_self
            cases hu : uniF z.atom row z.atom.args.length e with
            | none => rw [hu] at h; exact .inl h
            | some e1 =>
              rw [hu] at h
              obtain ⟨u1, u2, u3⟩ := uniF_D hza (fun c hc => (hrows row List.mem_cons_self).1 c (by rw [← hza.1]; exact hc)) _ e e1 (Nat.le_refl _) he hu
              rcases goM_D hS Z e1 out hZ' u1 t h with h | ⟨e', h1, h2, h3, h4⟩
              · exact .inl h
              · refine .inr ⟨e', h1, fun v hv => h2 v (u2 v hv), fun l hl hln => ?_, h4⟩
                rcases List.mem_cons.1 hl with h5 | h5
                · subst h5
                  exact fun i hi hv => h2 _ (u3 i hi hv)
                · exact h3 l h5 hln
          · exact .inr h
      exact key _ out (hS z.atom.pred) t ht
theorem cov_set {r : PR} {a : PA} {e : Env} (h : covB r a = true) (hs : ∀ z ∈ r.body, z.neg = false → VSet z.atom z.atom.args.length e) : VSet a a.args.length e := fun i hi hv => by
  unfold covB at h
  have h1 := List.all_eq_true.1 h _ (List.mem_of_getElem? (tA_at hi))
  rw [hv] at h1
  have h2 : posB r (tA a i).n = true := by simpa using h1
  unfold posB at h2
  obtain ⟨l, hl, h3⟩ := List.any_eq_true.1 h2
  rw [Bool.and_eq_true] at h3
  obtain ⟨t, ht, h4⟩ := List.any_eq_true.1 h3.2
  rw [Bool.and_eq_true] at h4
  have h5 : t.n = (tA a i).n := by simpa using h4.2
  obtain ⟨j, hj⟩ := List.getElem?_of_mem ht
  have hjl : j < l.atom.args.length := (List.getElem?_eq_some_iff.1 hj).1
  have e1 : tA l.atom j = t := Option.some.inj ((tA_at hjl).symm.trans hj)
  have h6 := hs l hl (by simpa using h3.1) j hjl (by rw [e1]; exact h4.1)
  rw [e1, h5] at h6
  exact h6
theorem gA_D {p : PP} {D : Int → Prop} {a : PA} (ha : AtD p D a) {e : Env} (he : EnD D e) (hv : VSet a a.args.length e) : TD p D a.pred (gA a e) := by
  refine ⟨fun c hc => ?_, fun c h1 h2 => ?_⟩
  · rw [← ha.1] at hc
    unfold gA
    rw [tg_gT _ _ _ _ (by have := ha.2.1; omega), if_pos hc]
    unfold valT
    cases hvr : (tA a c).var with
    | true =>
      rw [if_pos rfl]
      have hn := (ha.2.2 c hc).1 hvr
      exact he _ (by omega) (hv c hc hvr)
    | false => rw [if_neg (by decide)]; exact (ha.2.2 c hc).2 hvr
  · unfold gA
    rw [tg_gT _ _ _ _ h2, if_neg (by rw [ha.1]; omega)]
theorem enD_zero (D : Int → Prop) : EnD D Env.zero := fun v hv h => by
  have : eS Env.zero v = false := by
    rw [eS_at Env.zero hv]
    show (Vector.replicate 32 false)[v] = false
    simp
  rw [this] at h; cases h
theorem fnd_D {p : PP} {D : Int → Prop} {R : List (List Tup)} (hR : RD' p D R) {r : PR} (hr : RuD p D r) : ∀ t ∈ fnd R r, TD p D r.head.pred t := fun t ht => by
  rcases goM_D hR r.body Env.zero [] hr.2.1 (enD_zero D) t ht with h | ⟨e, h1, -, h3, rfl⟩
  · cases h
  · have hres := hr.2.2
    unfold resB at hres
    rw [Bool.and_eq_true] at hres
    exact gA_D hr.1 h1 (cov_set hres.1 h3)
theorem RD'.add {p : PP} {D : Int → Prop} {R : List (List Tup)} (h : RD' p D R) {q : Nat} {t : Tup} (ht : TD p D q t) : RD' p D (addR R q t) := fun z x hx => by
  by_cases e : z = q
  · subst e
    by_cases hl : z < R.length
    · have : rowsAt (addR R z t) z = rowsAt R z ++ [t] := by unfold addR; rw [rowsAt_set hl, if_pos rfl]
      rw [this] at hx
      rcases List.mem_append.1 hx with h1 | h1
      · exact h z x h1
      · rw [List.mem_singleton.1 h1]; exact ht
    · have : addR R z t = R := by unfold addR; exact List.set_eq_of_length_le (by omega)
      rw [this] at hx
      exact h z x hx
  · rw [rowsAt_addR _ _ _ e] at hx
    exact h z x hx
theorem step_D {p : PP} {D : Int → Prop} {h : Nat} : ∀ (ts : List Tup) (X : List (List Tup) × Bool), (∀ t ∈ ts, TD p D h t) → RD' p D X.1 → RD' p D (ts.foldl (stepT h) X).1
  | [], _, _, hI => hI
  | t :: ts, X, ht, hI => by
    rw [List.foldl_cons]
    refine step_D ts _ (fun x hx => ht x (List.mem_cons_of_mem _ hx)) ?_
    unfold stepT
    by_cases hm : t ∈ rowsAt X.1 h
    · rw [if_pos hm]; exact hI
    · rw [if_neg hm]; exact hI.add (ht t List.mem_cons_self)
theorem rnd_D {p : PP} {D : Int → Prop} (hp : ∀ r ∈ p.rules, RuD p D r) {s : Nat} : ∀ (rs : List PR) (X : List (List Tup) × Bool), (∀ r ∈ rs, r ∈ p.rules) → RD' p D X.1 → RD' p D (rnd p s rs X).1
  | [], _, _, hI => hI
  | r :: rs, X, hr, hI => by
    have hr' : ∀ r ∈ rs, r ∈ p.rules := fun x hx => hr x (List.mem_cons_of_mem _ hx)
    unfold rnd
    by_cases hs : (pI p r.head.pred).stratum ≠ (s : Int)
    · rw [if_pos hs]; exact rnd_D hp rs X hr' hI
    · rw [if_neg hs]
      have h1 := step_D (h := r.head.pred) _ X (fnd_D hI (hp r (hr r List.mem_cons_self))) hI
      dsimp only
      by_cases ho : overB ((fnd X.1 r).foldl (stepT r.head.pred) X).1 = true
      · rw [if_pos ho]; exact h1
      · rw [if_neg ho]; exact rnd_D hp rs _ hr' h1
theorem PerfTo.dom {p : PP} {D : Int → Prop} (hp : ∀ r ∈ p.rules, RuD p D r) {s : Nat} {R R1 : List (List Tup)} (h : PerfTo p s R R1) : RD' p D R → RD' p D R1 := by
  induction h with
  | fin => exact id
  | stop s R R1 g hs hr => intro hI; have := rnd_D hp (s := s) p.rules (R, false) (fun _ h => h) hI; rw [hr] at this; exact this
  | again s R R1 R2 hs hr _ ih => intro hI; have := rnd_D hp (s := s) p.rules (R, false) (fun _ h => h) hI; rw [hr] at this; exact ih this
  | next s R R1 R2 hs hr _ ih => intro hI; have := rnd_D hp (s := s) p.rules (R, false) (fun _ h => h) hI; rw [hr] at this; exact ih this
end Go.Proofs.Qxb6500787aGreat
