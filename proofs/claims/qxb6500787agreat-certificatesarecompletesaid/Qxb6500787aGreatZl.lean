
import Derived.Test.Qxb6500787aGreatXh
import Derived.StillTailTactics
import Derived.Deep.QuietTactic
import Derived.BigQuiet
import Derived.Deep.RegionHeld
import Derived.Deep.CutRange
import Derived.Laws.ResultCell
import Derived.Laws.Rows
import Derived.DeepKeys
import Derived.DataBytes
import Derived.Laws.StructEq
import Derived.Laws.AppendOwn
import Derived.Laws.MakeOwn
import Derived.Lib.AppendStr
set_option linter.unusedSimpArgs false
set_option linter.unusedVariables false
namespace Go.Proofs.Qxb6500787aGreat
open Go.RowKit Go.Blk
attribute [local go_sem ↓] execOp_load execOp_store execOp_alloc
attribute [local go_sem] Tryz.ld26 Tryz.st26 Tryz.ld27 Tryz.st27 Tryz.ld28 Tryz.st28 Tryz.ld3 Tryz.st3 Tryz.ld29 Tryz.st29 Tryz.ld44 Tryz.st44 Tryz.ld4 Tryz.st4 Tryz.ld50 Tryz.st50 Tryz.ld32 Tryz.st32 Tryz.ld49 Tryz.st49 Tryz.ld68 Tryz.st68 Tryz.ld9 Tryz.st9 Tryz.ld40 Tryz.st40 Tryz.ld138 Tryz.st138 Tryz.ld139 Tryz.st139 Tryz.ld146 Tryz.st146 Tryz.ld183 Tryz.st183 Tryz.ld184 Tryz.st184 Tryz.ld192 Tryz.st192 Tryz.ld195 Tryz.st195 Tryz.ld217 Tryz.st217 Tryz.ld159 Tryz.st159 Tryz.ld142 Tryz.st142 Tryz.ld2 Tryz.st2 Tryz.ld5 Tryz.st5 Tryz.ld12 Tryz.st12 Tryz.ld21 Tryz.st21 Tryz.ld22 Tryz.st22 Tryz.ld24 Tryz.st24 Tryz.ld58 Tryz.st58 Tryz.ld97 Tryz.st97 Tryz.ld101 Tryz.st101 Tryz.ld116 Tryz.st116 Tryz.ld121 Tryz.st121 Tryz.ld135 Tryz.st135 Tryz.ld136 Tryz.st136 Tryz.ld143 Tryz.st143 Tryz.ld148 Tryz.st148 Tryz.ld154 Tryz.st154 Tryz.ld173 Tryz.st173 Tryz.ld187 Tryz.st187 Tryz.ld222 Tryz.st222 Tryz.ld241 Tryz.st241 Tryz.ld248 Tryz.st248 Tryz.ld268 Tryz.st268 Tryz.ld272 Tryz.st272 Tryz.ld153 Tryz.st153 Tryz.ld255 Tryz.st255 Tryz.ld256 Tryz.st256 Tryz.ld129 Tryz.st129 Tryz.ld152 Tryz.st152 Tryz.ld31 Tryz.st31 Tryz.ld46 Tryz.st46 Tryz.ld52 Tryz.st52 Tryz.ld54 Tryz.st54 Tryz.ld60 Tryz.st60 Tryz.ld70 Tryz.st70 Tryz.ld74 Tryz.st74 Tryz.ld93 Tryz.st93 Tryz.ld141 Tryz.st141 Tryz.ld151 Tryz.st151 Tryz.ld170 Tryz.st170 Tryz.ld186 Tryz.st186 Tryz.ld189 Tryz.st189 Tryz.ld194 Tryz.st194 Tryz.ld197 Tryz.st197 Tryz.ld219 Tryz.st219 Tryz.ld224 Tryz.st224 Tryz.ld230 Tryz.st230 Tryz.ld235 Tryz.st235 Tryz.ld243 Tryz.st243 Tryz.ld247 Tryz.st247 Tryz.ld252 Tryz.st252 Tryz.ld258 Tryz.st258 Tryz.al153 Tryz.al255 Tryz.al256 Tryz.al129 Tryz.al152 Tryz.al31 Tryz.al46 Tryz.al52 Tryz.al54 Tryz.al60 Tryz.al70 Tryz.al74 Tryz.al93 Tryz.al141 Tryz.al151 Tryz.al170 Tryz.al186 Tryz.al189 Tryz.al194 Tryz.al197 Tryz.al219 Tryz.al224 Tryz.al230 Tryz.al235 Tryz.al243 Tryz.al247 Tryz.al252 Tryz.al258
attribute [local go_sem] Request.length_enc Request.ok_enc Request.all_get Request.all_set Request.kind_get Request.kind_set Request.blob_get Request.blob_set Request.items_get Request.items_set Request.pred_get Request.pred_set Request.slots_get Request.slots_set Trace.length_enc Trace.ok_enc Trace.all_get Trace.all_set Trace.op_get Trace.op_set Trace.calls_get Trace.calls_set Item.length_enc Item.ok_enc Item.all_get Item.all_set Item.del_get Item.del_set Item.pred_get Item.pred_set Item.args_get Item.args_set Reply.length_enc Reply.ok_enc Reply.all_get Reply.all_set Reply.code_get Reply.code_set Reply.kind_get Reply.kind_set Reply.index_get Reply.index_set Reply.yes_get Reply.yes_set Reply.preds_get Reply.preds_set Reply.rules_get Reply.rules_set Reply.arity_get Reply.arity_set Reply.rows_get Reply.rows_set Reply.fact_get Reply.fact_set Reply.fact_del_get Reply.fact_del_set Reply.fact_pred_get Reply.fact_pred_set Reply.fact_args_get Reply.fact_args_set GEntry.length_enc GEntry.ok_enc GEntry.all_get GEntry.all_set GEntry.seq_get GEntry.seq_set GEntry.kind_get GEntry.kind_set GEntry.code_get GEntry.code_set GOp.length_enc GOp.ok_enc GOp.all_get GOp.all_set GOp.kind_get GOp.kind_set GOp.raw_get GOp.raw_set Reader.length_enc Reader.ok_enc Reader.all_get Reader.all_set Reader.buf_get Reader.buf_set Reader.at__get Reader.at__set Slot.length_enc Slot.ok_enc Slot.all_get Slot.all_set Slot.bound_get Slot.bound_set Slot.name_get Slot.name_set Session.length_enc Session.ok_enc Session.all_get Session.all_set Session.svc_get Session.svc_set Session.buf_get Session.buf_set Session.closed_get Session.closed_set GProgram.length_enc GProgram.ok_enc GProgram.all_get GProgram.all_set GProgram.pool_get GProgram.pool_set GProgram.preds_get GProgram.preds_set GProgram.rules_get GProgram.rules_set GProgram.strata_get GProgram.strata_set PredInfo.length_enc PredInfo.ok_enc PredInfo.all_get PredInfo.all_set PredInfo.arity_get PredInfo.arity_set PredInfo.base_get PredInfo.base_set PredInfo.stratum_get PredInfo.stratum_set Change.length_enc Change.ok_enc Change.all_get Change.all_set Change.del_get Change.del_set Change.pred_get Change.pred_set Change.t_get Change.t_set Store.length_enc Store.ok_enc Store.all_get Store.all_set Store.names_get Store.names_set Store.arity_get Store.arity_set Store.rows_get Store.rows_set Src.length_enc Src.ok_enc Src.all_get Src.all_set Src.b_get Src.b_set Src.at__get Src.at__set Atom.length_enc Atom.ok_enc Atom.all_get Atom.all_set Atom.pred_get Atom.pred_set Atom.args_get Atom.args_set GRule.length_enc GRule.ok_enc GRule.all_get GRule.all_set GRule.head_get GRule.head_set GRule.body_get GRule.body_set GRule.head_pred_get GRule.head_pred_set GRule.head_args_get GRule.head_args_set Cert.length_enc Cert.ok_enc Cert.all_get Cert.all_set Cert.names_get Cert.names_set Cert.nodes_get Cert.nodes_set Fact.length_enc Fact.ok_enc Fact.all_get Fact.all_set Fact.pred_get Fact.pred_set Fact.t_get Fact.t_set Literal.length_enc Literal.ok_enc Literal.all_get Literal.all_set Literal.neg_get Literal.neg_set Literal.atom_get Literal.atom_set Literal.atom_pred_get Literal.atom_pred_set Literal.atom_args_get Literal.atom_args_set Engine.length_enc Engine.ok_enc Engine.all_get Engine.all_set Engine.prog_get Engine.prog_set Engine.st_get Engine.st_set SrcCertm.length_enc SrcCertm.ok_enc SrcCertm.all_get SrcCertm.all_set SrcCertm.b_get SrcCertm.b_set SrcCertm.at__get SrcCertm.at__set GNode.length_enc GNode.ok_enc GNode.all_get GNode.all_set GNode.rule_get GNode.rule_set GNode.pred_get GNode.pred_set GNode.vals_get GNode.vals_set GNode.refs_get GNode.refs_set Term.length_enc Term.ok_enc Term.all_get Term.all_set Term.var_get Term.var_set Term.n_get Term.n_set Env.length_enc Env.ok_enc Env.all_get Env.all_set Env.val_get Env.val_set Env.set_get Env.set_set
attribute [local go_sem] size_put size_ext blk_put free_put blk_alloc free_alloc blk_drew free_drew blk_ext free_ext lookOr_some putOr_some segAt_some cellAt_some storeIn_some put_put put_alloc_new length_arr ok_arr_u8 ok_arr_u32 ok_arr_u64 ok_arr_i64 ok_arr_sl cellsV_agg cellsV_int cellsV_bool cellsV_string cellsV_pointer cellsV_slice cellsV_sl ok_int ok_bool ok_string ok_pointer ok_slice ok_sl toList_arr seg_arr set_arr nth_splice nth_splice0 seg_splice seg_splice0 splice_splice splice_splice0 length_splice_if
attribute [local go_sem ↓] execOp_box
attribute [local go_sem] box_run nth_arr_u8 put_arr_u8 blk_drewN free_drewN put_drewN blk_raw free_raw
/-! ### The model of renamed facts is the renamed model -/
def mT (f : Int → Int) (n : Nat) (t : Tup) : Tup := Vector.ofFn fun i => if i.val < n then f (tg t i.val) else tg t i.val
theorem tg_mT (f : Int → Int) (n : Nat) (t : Tup) {c : Nat} (hc : c < 4) : tg (mT f n t) c = if c < n then f (tg t c) else tg t c := by
  show (mT f n t).toList.getD c 0 = _
  unfold mT
  rw [List.getD_eq_getElem?_getD, List.getElem?_eq_getElem (by simp; omega)]; simp
/-- A renaming: one to one on D. -/
def Ren (D : Int → Prop) (f : Int → Int) : Prop := ∀ x y, D x → D y → f x = f y → x = y
structure MR (f : Int → Int) (p : PP) (R R' : List (List Tup)) : Prop where
  len : R'.length = R.length
  row : ∀ q, rowsAt R' q = (rowsAt R q).map (mT f (arP p q))
theorem mT_inj {p : PP} {D : Int → Prop} {f : Int → Int} (hf : Ren D f) {q : Nat} {t u : Tup} (ht : TD p D q t) (hu : TD p D q u) (h : mT f (arP p q) t = mT f (arP p q) u) : t = u := by
  refine tg_ext fun c hc => ?_
  have h1 := congrArg (fun x => tg x c) h
  try dsimp only at h1
  rw [tg_mT _ _ _ hc, tg_mT _ _ _ hc] at h1
  by_cases e : c < arP p q
  · rw [if_pos e, if_pos e] at h1
    exact hf _ _ (ht.1 c e) (hu.1 c e) h1
  · rw [if_neg e, if_neg e] at h1
    exact h1
theorem MR.mem {p : PP} {D : Int → Prop} {f : Int → Int} (hf : Ren D f) {R R' : List (List Tup)} (hM : MR f p R R') (hR : RD' p D R) {q : Nat} {t : Tup} (ht : TD p D q t) : mT f (arP p q) t ∈ rowsAt R' q ↔ t ∈ rowsAt R q := by
  rw [hM.row q, List.mem_map]
  constructor
  · rintro ⟨u, hu, e⟩
    rw [← mT_inj hf (hR q u hu) ht e]; exact hu
  · exact fun h => ⟨t, h, rfl⟩
/-- Environments that correspond. -/
structure EnM (D : Int → Prop) (f : Int → Int) (e e' : Env) : Prop where
  set : ∀ v, v < 32 → eS e' v = eS e v
  val : ∀ v, v < 32 → eS e v = true → D (eV e v) ∧ eV e' v = f (eV e v)
theorem EnM.d {D : Int → Prop} {f : Int → Int} {e e' : Env} (h : EnM D f e e') : EnD D e := fun v hv hs => (h.val v hv hs).1
theorem uniF_M {p : PP} {D : Int → Prop} {f : Int → Int} (hf : Ren D f) {a : PA} (ha : AtD p D a) (hc0 : ∀ c, c < a.args.length → (tA a c).var = false → f (tA a c).n = (tA a c).n) {row : Tup} (hr : TD p D a.pred row) : ∀ (c : Nat) (e e' : Env), c ≤ a.args.length → EnM D f e e' → (uniF a row c e = none ∧ uniF a (mT f (arP p a.pred) row) c e' = none) ∨ ∃ e1 e1', uniF a row c e = some e1 ∧ uniF a (mT f (arP p a.pred) row) c e' = some e1' ∧ EnM D f e1 e1'
  | 0, e, e', _, he => .inr ⟨e, e', rfl, rfl, he⟩
  | c + 1, e, e', hc, he => by
    rcases uniF_M hf ha hc0 hr c e e' (by omega) he with ⟨h1, h2⟩ | ⟨e1, e1', h1, h2, h3⟩
    · left
      unfold uniF
      rw [h1, h2]
      exact ⟨rfl, rfl⟩
    · unfold uniF
      rw [h1, h2]
      show (uniS a row c e1 = none ∧ uniS a (mT f (arP p a.pred) row) c e1' = none) ∨ ∃ x x', uniS a row c e1 = some x ∧ uniS a (mT f (arP p a.pred) row) c e1' = some x' ∧ EnM D f x x'
      have hcc : c < a.args.length := by omega
      have hcp : c < arP p a.pred := by rw [← ha.1]; exact hcc
      have hD := hr.1 c hcp
      have ht : tg (mT f (arP p a.pred) row) c = f (tg row c) := by
        rw [tg_mT _ _ _ (by have := ha.2.1; omega), if_pos hcp]
      unfold uniS
      rw [ht]
      cases hv : (tA a c).var with
      | true =>
        rw [if_pos rfl, if_pos rfl]
        have hn := (ha.2.2 c hcc).1 hv
        have hn' : (tA a c).n.toNat < 32 := by omega
        have hs := h3.set _ hn'
        by_cases e2 : eS e1 (tA a c).n.toNat = true ∧ ¬ eV e1 (tA a c).n.toNat = tg row c
        · left
          obtain ⟨d1, d2⟩ := h3.val _ hn' e2.1
          rw [if_pos e2, if_pos ⟨by rw [hs]; exact e2.1, fun e3 => e2.2 (hf _ _ d1 hD (by rw [← d2]; exact e3))⟩]
          exact ⟨rfl, rfl⟩
        · right
          have e2' : ¬ (eS e1' (tA a c).n.toNat = true ∧ ¬ eV e1' (tA a c).n.toNat = f (tg row c)) := fun h => by
            have hs1 : eS e1 (tA a c).n.toNat = true := by rw [← hs]; exact h.1
            obtain ⟨d1, d2⟩ := h3.val _ hn' hs1
            by_cases e4 : eV e1 (tA a c).n.toNat = tg row c
            · exact h.2 (by rw [d2, e4])
            · exact e2 ⟨hs1, e4⟩
          rw [if_neg e2, if_neg e2']
          refine ⟨_, _, rfl, rfl, fun v hv2 => ?_, fun v hv2 hs2 => ?_⟩
          · rw [eS_eU _ hn', eS_eU _ hn']
            by_cases e3 : v = (tA a c).n.toNat
            · rw [if_pos e3, if_pos e3]
            · rw [if_neg e3, if_neg e3]; exact h3.set v hv2
          · rw [eS_eU _ hn'] at hs2
            rw [eV_eU _ hn', eV_eU _ hn']
            by_cases e3 : v = (tA a c).n.toNat
            · rw [if_pos e3, if_pos e3]; exact ⟨hD, rfl⟩
            · rw [if_neg e3] at hs2 ⊢
              rw [if_neg e3]
              exact h3.val v hv2 hs2
      | false =>
        simp only [Bool.false_eq_true, if_false]
        have hcD := (ha.2.2 c hcc).2 hv
        have hfc := hc0 c hcc hv
        by_cases e2 : (tA a c).n = tg row c
        · right
          rw [if_pos e2, if_pos (by rw [← e2, hfc])]
          exact ⟨_, _, rfl, rfl, h3⟩
        · left
          rw [if_neg e2, if_neg (fun e3 => e2 (hf _ _ hcD hD (by rw [hfc]; exact e3)))]
          exact ⟨rfl, rfl⟩
theorem gA_M {p : PP} {D : Int → Prop} {f : Int → Int} {a : PA} (ha : AtD p D a) (hc0 : ∀ c, c < a.args.length → (tA a c).var = false → f (tA a c).n = (tA a c).n) {e e' : Env} (he : EnM D f e e') (hv : VSet a a.args.length e) : gA a e' = mT f (arP p a.pred) (gA a e) := by
  refine tg_ext fun c hc => ?_
  rw [tg_mT _ _ _ hc]
  unfold gA
  rw [tg_gT _ _ _ _ hc, tg_gT _ _ _ _ hc, ← ha.1]
  by_cases h : c < a.args.length
  · rw [if_pos h, if_pos h, if_pos h]
    unfold valT
    cases hvr : (tA a c).var with
    | true =>
      rw [if_pos rfl, if_pos rfl]
      have hn := (ha.2.2 c h).1 hvr
      exact (he.val _ (by omega) (hv c h hvr)).2
    | false => rw [if_neg (by decide), if_neg (by decide)]; exact (hc0 c h hvr).symm
  · rw [if_neg h, if_neg h, if_neg h]
/-- The rule's constants stay. -/
def CFix (f : Int → Int) (a : PA) : Prop := ∀ c, c < a.args.length → (tA a c).var = false → f (tA a c).n = (tA a c).n
theorem goM_M {p : PP} {D : Int → Prop} {f : Int → Int} (hf : Ren D f) {S S' : List (List Tup)} (hS : RD' p D S) (hM : MR f p S S') {r : PR} (hr : RuD p D r) (hch : CFix f r.head) (hcb : ∀ l ∈ r.body, CFix f l.atom) : ∀ (Z : List PL) (e e' : Env) (out : List Tup), (∀ l ∈ Z, l ∈ r.body) → (∀ l ∈ r.body, l.neg = false → l ∈ Z ∨ VSet l.atom l.atom.args.length e) → EnM D f e e' → (∀ t ∈ out, TD p D r.head.pred t) → goM S' r.body r.head Z e' (out.map (mT f (arP p r.head.pred))) = (goM S r.body r.head Z e out).map (mT f (arP p r.head.pred)) ∧ ∀ t ∈ goM S r.body r.head Z e out, TD p D r.head.pred t
  | [], e, e', out, _, hV, he, ho => by
    have hVS : ∀ z ∈ r.body, z.neg = false → VSet z.atom z.atom.args.length e := fun z hz hn => by
      rcases hV z hz hn with h | h
      · cases h
      · exact h
    have hres := hr.2.2
    unfold resB at hres
    rw [Bool.and_eq_true] at hres
    have hvh := cov_set hres.1 hVS
    have hgh := gA_M hr.1 hch he hvh
    have hth := gA_D hr.1 he.d hvh
    have hneg : negs S' r.body e' = negs S r.body e := by
      unfold negs
      rw [Bool.eq_iff_iff, List.all_eq_true, List.all_eq_true]
      have key : ∀ z ∈ r.body, z.neg = true → (gA z.atom e' ∈ rowsAt S' z.atom.pred ↔ gA z.atom e ∈ rowsAt S z.atom.pred) := fun z hz hn => by
        have hcv : covB r z.atom = true := by
          have h1 := List.all_eq_true.1 hres.2 z hz
          rw [hn] at h1
          simpa using h1
        have hvz := cov_set hcv hVS
        have hza := hr.2.1 z hz
        rw [gA_M hza (hcb z hz) he hvz]
        exact hM.mem hf hS (gA_D hza he.d hvz)
      constructor
      · intro h z hz
        have h1 := h z hz
        cases hn : z.neg with
        | false => rfl
        | true =>
          rw [hn] at h1
          have h2 : gA z.atom e' ∉ rowsAt S' z.atom.pred := by simpa using h1
          simp only [Bool.true_and, Bool.not_eq_true', decide_eq_false_iff_not]
          exact fun h3 => h2 ((key z hz hn).2 h3)
      · intro h z hz
        have h1 := h z hz
        cases hn : z.neg with
        | false => rfl
        | true =>
          rw [hn] at h1
          have h2 : gA z.atom e ∉ rowsAt S z.atom.pred := by simpa using h1
          simp only [Bool.true_and, Bool.not_eq_true', decide_eq_false_iff_not]
          exact fun h3 => h2 ((key z hz hn).1 h3)
    unfold goM
    rw [hneg, hgh]
    by_cases hb : negs S r.body e = true
    · rw [if_pos hb, if_pos hb]
      refine ⟨?_, fun t ht => ?_⟩
      · unfold addT
        by_cases hm : gA r.head e ∈ out
        · rw [if_pos hm, if_pos (List.mem_map.2 ⟨_, hm, rfl⟩)]
        · rw [if_neg hm, if_neg (fun h => ?_), List.map_append]; rfl
          obtain ⟨u, hu, e2⟩ := List.mem_map.1 h
          exact hm (by rw [← mT_inj hf (ho u hu) hth e2]; exact hu)
      · rcases mem_addT.1 ht with h1 | h1
        · exact ho t h1
        · rw [h1]; exact hth
    · rw [if_neg hb, if_neg hb]
      exact ⟨rfl, ho⟩
  | z :: Z, e, e', out, hZ, hV, he, ho => by
    have hzb := hZ z List.mem_cons_self
    have hZ' : ∀ l ∈ Z, l ∈ r.body := fun l hl => hZ l (List.mem_cons_of_mem _ hl)
    rw [goM_cons, goM_cons]
    cases hn : z.neg with
    | true =>
      rw [if_pos rfl, if_pos rfl]
      refine goM_M hf hS hM hr hch hcb Z e e' out hZ' (fun l hl hln => ?_) he ho
      rcases hV l hl hln with h | h
      · rcases List.mem_cons.1 h with h | h
        · rw [h, hn] at hln; cases hln
        · exact .inl h
      · exact .inr h
    | false =>
      rw [if_neg (by decide), if_neg (by decide), hM.row z.atom.pred]
      have hza := hr.2.1 z hzb
      have key : ∀ (rows : List Tup) (out : List Tup), (∀ x ∈ rows, TD p D z.atom.pred x) → (∀ t ∈ out, TD p D r.head.pred t) → (rows.map (mT f (arP p z.atom.pred))).foldl (stM S' r.body r.head z Z e') (out.map (mT f (arP p r.head.pred))) = (rows.foldl (stM S r.body r.head z Z e) out).map (mT f (arP p r.head.pred)) ∧ ∀ t ∈ rows.foldl (stM S r.body r.head z Z e) out, TD p D r.head.pred t := by
        intro rows
        induction rows with
        | nil => exact fun out _ ho => ⟨rfl, ho⟩
        | cons row rows ih =>
          intro out hrows ho
          rw [List.map_cons, List.foldl_cons, List.foldl_cons]
          have hrow := hrows row List.mem_cons_self
          have hst : stM S' r.body r.head z Z e' (out.map (mT f (arP p r.head.pred))) (mT f (arP p z.atom.pred) row) = (stM S r.body r.head z Z e out row).map (mT f (arP p r.head.pred)) ∧ ∀ t ∈ stM S r.body r.head z Z e out row, TD p D r.head.pred t := by
            unfold stM
            rcases uniF_M hf hza (hcb z hzb) hrow _ e e' (Nat.le_refl _) he with ⟨h1, h2⟩ | ⟨e1, e1', h1, h2, h3⟩
            · rw [h1, h2]; exact ⟨rfl, ho⟩
            · rw [h1, h2]
              obtain ⟨u1, u2, u3⟩ := uniF_D hza (fun c hc => hrow.1 c (by rw [← hza.1]; exact hc)) _ e e1 (Nat.le_refl _) he.d h1
              refine goM_M hf hS hM hr hch hcb Z e1 e1' out hZ' (fun l hl hln => ?_) h3 ho
              rcases hV l hl hln with h | h
              · rcases List.mem_cons.1 h with h | h
                · rw [h]; exact .inr u3
                · exact .inl h
              · exact .inr (fun i hi hv => u2 _ (h i hi hv))
          rw [hst.1]
          exact ih _ (fun x hx => hrows x (List.mem_cons_of_mem _ hx)) hst.2
      exact key _ out (hS z.atom.pred) ho
theorem enM_zero (D : Int → Prop) (f : Int → Int) : EnM D f Env.zero Env.zero := ⟨fun _ _ => rfl, fun v hv h => by
  have : eS Env.zero v = false := by
    rw [eS_at Env.zero hv]
    show (Vector.replicate 32 false)[v] = false
    simp
  rw [this] at h; cases h⟩
theorem fnd_M {p : PP} {D : Int → Prop} {f : Int → Int} (hf : Ren D f) {S S' : List (List Tup)} (hS : RD' p D S) (hM : MR f p S S') {r : PR} (hr : RuD p D r) (hch : CFix f r.head) (hcb : ∀ l ∈ r.body, CFix f l.atom) : fnd S' r = (fnd S r).map (mT f (arP p r.head.pred)) := (goM_M hf hS hM hr hch hcb r.body Env.zero Env.zero [] (fun _ h => h) (fun l hl _ => .inl hl) (enM_zero D f) (fun t h => by cases h)).1
theorem MR.add {p : PP} {f : Int → Int} {R R' : List (List Tup)} (h : MR f p R R') (q : Nat) (t : Tup) : MR f p (addR R q t) (addR R' q (mT f (arP p q) t)) := by
  refine ⟨by unfold addR; rw [List.length_set, List.length_set]; exact h.len, fun z => ?_⟩
  by_cases e : z = q
  · subst e
    by_cases hl : z < R.length
    · have e1 : rowsAt (addR R z t) z = rowsAt R z ++ [t] := by unfold addR; rw [rowsAt_set hl, if_pos rfl]
      have e2 : rowsAt (addR R' z (mT f (arP p z) t)) z = rowsAt R' z ++ [mT f (arP p z) t] := by unfold addR; rw [rowsAt_set (by rw [h.len]; exact hl), if_pos rfl]
      rw [e1, e2, h.row z, List.map_append]; rfl
    · have e1 : addR R z t = R := by unfold addR; exact List.set_eq_of_length_le (by omega)
      have e2 : addR R' z (mT f (arP p z) t) = R' := by unfold addR; exact List.set_eq_of_length_le (by rw [h.len]; omega)
      rw [e1, e2]; exact h.row z
  · rw [rowsAt_addR _ _ _ e, rowsAt_addR _ _ _ e]; exact h.row z
theorem step_M {p : PP} {D : Int → Prop} {f : Int → Int} (hf : Ren D f) {h : Nat} : ∀ (ts : List Tup) (X X' : List (List Tup) × Bool), (∀ t ∈ ts, TD p D h t) → RD' p D X.1 → MR f p X.1 X'.1 → X'.2 = X.2 → MR f p (ts.foldl (stepT h) X).1 ((ts.map (mT f (arP p h))).foldl (stepT h) X').1 ∧ ((ts.map (mT f (arP p h))).foldl (stepT h) X').2 = (ts.foldl (stepT h) X).2
  | [], X, X', _, _, hM, h2 => ⟨hM, h2⟩
  | t :: ts, X, X', ht, hI, hM, h2 => by
    rw [List.map_cons, List.foldl_cons, List.foldl_cons]
    have htt := ht t List.mem_cons_self
    refine step_M hf ts _ _ (fun x hx => ht x (List.mem_cons_of_mem _ hx)) ?_ ?_ ?_
    · unfold stepT
      by_cases hm : t ∈ rowsAt X.1 h
      · rw [if_pos hm]; exact hI
      · rw [if_neg hm]; exact hI.add htt
    · unfold stepT
      by_cases hm : t ∈ rowsAt X.1 h
      · rw [if_pos hm, if_pos ((hM.mem hf hI htt).2 hm)]; exact hM
      · rw [if_neg hm, if_neg (fun h9 => hm ((hM.mem hf hI htt).1 h9))]; exact hM.add h t
    · unfold stepT
      by_cases hm : t ∈ rowsAt X.1 h
      · rw [if_pos hm, if_pos ((hM.mem hf hI htt).2 hm)]; exact h2
      · rw [if_neg hm, if_neg (fun h9 => hm ((hM.mem hf hI htt).1 h9))]
theorem MR.over {p : PP} {f : Int → Int} {R R' : List (List Tup)} (h : MR f p R R') : overB R' = overB R := by
  have hl : ∀ q, (rowsAt R' q).length = (rowsAt R q).length := fun q => by rw [h.row q, List.length_map]
  have key : ∀ (A B : List (List Tup)), A.length = B.length → (∀ q, (rowsAt A q).length = (rowsAt B q).length) → overB A = true → overB B = true := fun A B h1 h2 h3 => by
    unfold overB at h3 ⊢
    obtain ⟨L, hL, h4⟩ := List.any_eq_true.1 h3
    obtain ⟨q, hq, e⟩ := List.getElem_of_mem hL
    refine List.any_eq_true.2 ⟨B[q]'(by omega), List.getElem_mem _, ?_⟩
    have e1 : rowsAt A q = L := by unfold rowsAt; rw [List.getD_eq_getElem?_getD, List.getElem?_eq_getElem hq]; exact e
    have e2 : rowsAt B q = B[q]'(by omega) := by unfold rowsAt; rw [List.getD_eq_getElem?_getD, List.getElem?_eq_getElem (by omega)]; rfl
    rw [← e2, decide_eq_true_eq, ← h2 q, e1]
    simpa using h4
  rw [Bool.eq_iff_iff]
  exact ⟨key R' R h.len hl, key R R' h.len.symm (fun q => (hl q).symm)⟩
theorem rnd_M {p : PP} {D : Int → Prop} {f : Int → Int} (hf : Ren D f) (hp : ∀ r ∈ p.rules, RuD p D r) (hc : ∀ r ∈ p.rules, CFix f r.head ∧ ∀ l ∈ r.body, CFix f l.atom) {s : Nat} : ∀ (rs : List PR) (X X' : List (List Tup) × Bool), (∀ r ∈ rs, r ∈ p.rules) → RD' p D X.1 → MR f p X.1 X'.1 → X'.2 = X.2 → MR f p (rnd p s rs X).1 (rnd p s rs X').1 ∧ (rnd p s rs X').2 = (rnd p s rs X).2
  | [], X, X', _, _, hM, h2 => ⟨hM, by show (X'.2, false) = (X.2, false); rw [h2]⟩
  | r :: rs, X, X', hr, hI, hM, h2 => by
    have hr' : ∀ r ∈ rs, r ∈ p.rules := fun x hx => hr x (List.mem_cons_of_mem _ hx)
    unfold rnd
    by_cases hs : (pI p r.head.pred).stratum ≠ (s : Int)
    · rw [if_pos hs, if_pos hs]; exact rnd_M hf hp hc rs X X' hr' hI hM h2
    · rw [if_neg hs, if_neg hs]
      have hrr := hr r List.mem_cons_self
      have hF := fnd_D hI (hp r hrr)
      have h1 := step_D (h := r.head.pred) _ X hF hI
      have hm := step_M hf (h := r.head.pred) (fnd X.1 r) X X' hF hI hM h2
      rw [← fnd_M hf hI hM (hp r hrr) (hc r hrr).1 (hc r hrr).2] at hm
      dsimp only
      rw [hm.1.over]
      by_cases ho : overB ((fnd X.1 r).foldl (stepT r.head.pred) X).1 = true
      · rw [if_pos ho, if_pos ho]; exact ⟨hm.1, by rw [hm.2]⟩
      · rw [if_neg ho, if_neg ho]; exact rnd_M hf hp hc rs _ _ hr' h1 hm.1 hm.2
theorem PerfTo.ren {p : PP} {D : Int → Prop} {f : Int → Int} (hf : Ren D f) (hp : ∀ r ∈ p.rules, RuD p D r) (hc : ∀ r ∈ p.rules, CFix f r.head ∧ ∀ l ∈ r.body, CFix f l.atom) {s : Nat} {R R1 : List (List Tup)} (h : PerfTo p s R R1) : ∀ {R' : List (List Tup)}, RD' p D R → MR f p R R' → ∃ R1', PerfTo p s R' R1' ∧ MR f p R1 R1' := by
  induction h with
  | fin s R hs => exact fun {R'} _ hM => ⟨R', .fin s R' hs, hM⟩
  | stop s R R1 g hs hr =>
    intro R' hI hM
    have h1 := rnd_M hf hp hc (s := s) p.rules (R, false) (R', false) (fun _ h => h) hI hM rfl
    rw [hr] at h1
    exact ⟨_, .stop s R' _ g hs (Prod.ext rfl h1.2), h1.1⟩
  | again s R R1 R2 hs hr _ ih =>
    intro R' hI hM
    have h1 := rnd_M hf hp hc (s := s) p.rules (R, false) (R', false) (fun _ h => h) hI hM rfl
    have h2 := rnd_D hp (s := s) p.rules (R, false) (fun _ h => h) hI
    rw [hr] at h1 h2
    obtain ⟨R1', h3, h4⟩ := ih h2 h1.1
    exact ⟨R1', .again s R' _ R1' hs (Prod.ext rfl h1.2) h3, h4⟩
  | next s R R1 R2 hs hr _ ih =>
    intro R' hI hM
    have h1 := rnd_M hf hp hc (s := s) p.rules (R, false) (R', false) (fun _ h => h) hI hM rfl
    have h2 := rnd_D hp (s := s) p.rules (R, false) (fun _ h => h) hI
    rw [hr] at h1 h2
    obtain ⟨R1', h3, h4⟩ := ih h2 h1.1
    exact ⟨R1', .next s R' _ R1' hs (Prod.ext rfl h1.2) h3, h4⟩
end Go.Proofs.Qxb6500787aGreat
