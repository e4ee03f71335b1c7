
import Derived.Test.Qxb6500787aGreatZn
import Derived.StillTailTactics
import Derived.Deep.QuietTactic
import Derived.BigQuiet
import Derived.Deep.RegionHeld
import Derived.Deep.CutRange
import Derived.Laws.ResultCell
import Derived.Laws.Rows
import Derived.DeepKeys
import Derived.DataBytes
import Derived.Laws.StructEq
import Derived.Laws.AppendOwn
import Derived.Laws.MakeOwn
import Derived.Lib.AppendStr
set_option linter.unusedSimpArgs false
set_option linter.unusedVariables false
namespace Go.Proofs.Qxb6500787aGreat
open Go.RowKit Go.Blk
attribute [local go_sem ↓] execOp_load execOp_store execOp_alloc
attribute [local go_sem] Tryz.ld26 Tryz.st26 Tryz.ld27 Tryz.st27 Tryz.ld28 Tryz.st28 Tryz.ld3 Tryz.st3 Tryz.ld29 Tryz.st29 Tryz.ld44 Tryz.st44 Tryz.ld4 Tryz.st4 Tryz.ld50 Tryz.st50 Tryz.ld32 Tryz.st32 Tryz.ld49 Tryz.st49 Tryz.ld68 Tryz.st68 Tryz.ld9 Tryz.st9 Tryz.ld40 Tryz.st40 Tryz.ld138 Tryz.st138 Tryz.ld139 Tryz.st139 Tryz.ld146 Tryz.st146 Tryz.ld183 Tryz.st183 Tryz.ld184 Tryz.st184 Tryz.ld192 Tryz.st192 Tryz.ld195 Tryz.st195 Tryz.ld217 Tryz.st217 Tryz.ld159 Tryz.st159 Tryz.ld142 Tryz.st142 Tryz.ld2 Tryz.st2 Tryz.ld5 Tryz.st5 Tryz.ld12 Tryz.st12 Tryz.ld21 Tryz.st21 Tryz.ld22 Tryz.st22 Tryz.ld24 Tryz.st24 Tryz.ld58 Tryz.st58 Tryz.ld97 Tryz.st97 Tryz.ld101 Tryz.st101 Tryz.ld116 Tryz.st116 Tryz.ld121 Tryz.st121 Tryz.ld135 Tryz.st135 Tryz.ld136 Tryz.st136 Tryz.ld143 Tryz.st143 Tryz.ld148 Tryz.st148 Tryz.ld154 Tryz.st154 Tryz.ld173 Tryz.st173 Tryz.ld187 Tryz.st187 Tryz.ld222 Tryz.st222 Tryz.ld241 Tryz.st241 Tryz.ld248 Tryz.st248 Tryz.ld268 Tryz.st268 Tryz.ld272 Tryz.st272 Tryz.ld153 Tryz.st153 Tryz.ld255 Tryz.st255 Tryz.ld256 Tryz.st256 Tryz.ld129 Tryz.st129 Tryz.ld152 Tryz.st152 Tryz.ld31 Tryz.st31 Tryz.ld46 Tryz.st46 Tryz.ld52 Tryz.st52 Tryz.ld54 Tryz.st54 Tryz.ld60 Tryz.st60 Tryz.ld70 Tryz.st70 Tryz.ld74 Tryz.st74 Tryz.ld93 Tryz.st93 Tryz.ld141 Tryz.st141 Tryz.ld151 Tryz.st151 Tryz.ld170 Tryz.st170 Tryz.ld186 Tryz.st186 Tryz.ld189 Tryz.st189 Tryz.ld194 Tryz.st194 Tryz.ld197 Tryz.st197 Tryz.ld219 Tryz.st219 Tryz.ld224 Tryz.st224 Tryz.ld230 Tryz.st230 Tryz.ld235 Tryz.st235 Tryz.ld243 Tryz.st243 Tryz.ld247 Tryz.st247 Tryz.ld252 Tryz.st252 Tryz.ld258 Tryz.st258 Tryz.al153 Tryz.al255 Tryz.al256 Tryz.al129 Tryz.al152 Tryz.al31 Tryz.al46 Tryz.al52 Tryz.al54 Tryz.al60 Tryz.al70 Tryz.al74 Tryz.al93 Tryz.al141 Tryz.al151 Tryz.al170 Tryz.al186 Tryz.al189 Tryz.al194 Tryz.al197 Tryz.al219 Tryz.al224 Tryz.al230 Tryz.al235 Tryz.al243 Tryz.al247 Tryz.al252 Tryz.al258
attribute [local go_sem] Request.length_enc Request.ok_enc Request.all_get Request.all_set Request.kind_get Request.kind_set Request.blob_get Request.blob_set Request.items_get Request.items_set Request.pred_get Request.pred_set Request.slots_get Request.slots_set Trace.length_enc Trace.ok_enc Trace.all_get Trace.all_set Trace.op_get Trace.op_set Trace.calls_get Trace.calls_set Item.length_enc Item.ok_enc Item.all_get Item.all_set Item.del_get Item.del_set Item.pred_get Item.pred_set Item.args_get Item.args_set Reply.length_enc Reply.ok_enc Reply.all_get Reply.all_set Reply.code_get Reply.code_set Reply.kind_get Reply.kind_set Reply.index_get Reply.index_set Reply.yes_get Reply.yes_set Reply.preds_get Reply.preds_set Reply.rules_get Reply.rules_set Reply.arity_get Reply.arity_set Reply.rows_get Reply.rows_set Reply.fact_get Reply.fact_set Reply.fact_del_get Reply.fact_del_set Reply.fact_pred_get Reply.fact_pred_set Reply.fact_args_get Reply.fact_args_set GEntry.length_enc GEntry.ok_enc GEntry.all_get GEntry.all_set GEntry.seq_get GEntry.seq_set GEntry.kind_get GEntry.kind_set GEntry.code_get GEntry.code_set GOp.length_enc GOp.ok_enc GOp.all_get GOp.all_set GOp.kind_get GOp.kind_set GOp.raw_get GOp.raw_set Reader.length_enc Reader.ok_enc Reader.all_get Reader.all_set Reader.buf_get Reader.buf_set Reader.at__get Reader.at__set Slot.length_enc Slot.ok_enc Slot.all_get Slot.all_set Slot.bound_get Slot.bound_set Slot.name_get Slot.name_set Session.length_enc Session.ok_enc Session.all_get Session.all_set Session.svc_get Session.svc_set Session.buf_get Session.buf_set Session.closed_get Session.closed_set GProgram.length_enc GProgram.ok_enc GProgram.all_get GProgram.all_set GProgram.pool_get GProgram.pool_set GProgram.preds_get GProgram.preds_set GProgram.rules_get GProgram.rules_set GProgram.strata_get GProgram.strata_set PredInfo.length_enc PredInfo.ok_enc PredInfo.all_get PredInfo.all_set PredInfo.arity_get PredInfo.arity_set PredInfo.base_get PredInfo.base_set PredInfo.stratum_get PredInfo.stratum_set Change.length_enc Change.ok_enc Change.all_get Change.all_set Change.del_get Change.del_set Change.pred_get Change.pred_set Change.t_get Change.t_set Store.length_enc Store.ok_enc Store.all_get Store.all_set Store.names_get Store.names_set Store.arity_get Store.arity_set Store.rows_get Store.rows_set Src.length_enc Src.ok_enc Src.all_get Src.all_set Src.b_get Src.b_set Src.at__get Src.at__set Atom.length_enc Atom.ok_enc Atom.all_get Atom.all_set Atom.pred_get Atom.pred_set Atom.args_get Atom.args_set GRule.length_enc GRule.ok_enc GRule.all_get GRule.all_set GRule.head_get GRule.head_set GRule.body_get GRule.body_set GRule.head_pred_get GRule.head_pred_set GRule.head_args_get GRule.head_args_set Cert.length_enc Cert.ok_enc Cert.all_get Cert.all_set Cert.names_get Cert.names_set Cert.nodes_get Cert.nodes_set Fact.length_enc Fact.ok_enc Fact.all_get Fact.all_set Fact.pred_get Fact.pred_set Fact.t_get Fact.t_set Literal.length_enc Literal.ok_enc Literal.all_get Literal.all_set Literal.neg_get Literal.neg_set Literal.atom_get Literal.atom_set Literal.atom_pred_get Literal.atom_pred_set Literal.atom_args_get Literal.atom_args_set Engine.length_enc Engine.ok_enc Engine.all_get Engine.all_set Engine.prog_get Engine.prog_set Engine.st_get Engine.st_set SrcCertm.length_enc SrcCertm.ok_enc SrcCertm.all_get SrcCertm.all_set SrcCertm.b_get SrcCertm.b_set SrcCertm.at__get SrcCertm.at__set GNode.length_enc GNode.ok_enc GNode.all_get GNode.all_set GNode.rule_get GNode.rule_set GNode.pred_get GNode.pred_set GNode.vals_get GNode.vals_set GNode.refs_get GNode.refs_set Term.length_enc Term.ok_enc Term.all_get Term.all_set Term.var_get Term.var_set Term.n_get Term.n_set Env.length_enc Env.ok_enc Env.all_get Env.all_set Env.val_get Env.val_set Env.set_get Env.set_set
attribute [local go_sem] size_put size_ext blk_put free_put blk_alloc free_alloc blk_drew free_drew blk_ext free_ext lookOr_some putOr_some segAt_some cellAt_some storeIn_some put_put put_alloc_new length_arr ok_arr_u8 ok_arr_u32 ok_arr_u64 ok_arr_i64 ok_arr_sl cellsV_agg cellsV_int cellsV_bool cellsV_string cellsV_pointer cellsV_slice cellsV_sl ok_int ok_bool ok_string ok_pointer ok_slice ok_sl toList_arr seg_arr set_arr nth_splice nth_splice0 seg_splice seg_splice0 splice_splice splice_splice0 length_splice_if
attribute [local go_sem ↓] execOp_box
attribute [local go_sem] box_run nth_arr_u8 put_arr_u8 blk_drewN free_drewN put_drewN blk_raw free_raw
/-! ### Facts by their names -/
/-- The rows of a relation as names. -/
def nmB (p : PP) (N : List (List UInt8)) (B : List (List Tup)) (q : Nat) : List (List (List UInt8)) := (rowsAt B q).map fun x => nmsT N x (arP p q)
/-- Relations over a table of names. -/
structure NB (p : PP) (N : List (List UInt8)) (B : List (List Tup)) : Prop where
  nd : N.Nodup
  pre : p.pool <+: N
  td : RD' p (InT N.length) B
/-- A symbol of the policy or of a fact. -/
def UsB (p : PP) (B : List (List Tup)) (y : Int) : Prop := InT p.pool.length y ∨ ∃ q x c, x ∈ rowsAt B q ∧ c < arP p q ∧ tg x c = y
def reB (N N' : List (List UInt8)) (y : Int) : Int := lookF N' (N.getD y.toNat [])
theorem getD_at {N : List (List UInt8)} {y : Nat} (h : y < N.length) : N[y]? = some (N.getD y []) := by
  rw [List.getD_eq_getElem?_getD, List.getElem?_eq_getElem h]; rfl
theorem look_at {N : List (List UInt8)} (hn : N.Nodup) {y : Int} (hy : InT N.length y) : lookF N (N.getD y.toNat []) = y := by
  rw [look_nodup hn (getD_at hy.2)]
  have := hy.1
  omega
theorem NB.us {p : PP} {N : List (List UInt8)} {B : List (List Tup)} (h : NB p N B) {y : Int} (hy : UsB p B y) : InT N.length y := by
  rcases hy with hy | ⟨q, x, c, hx, hc, rfl⟩
  · exact hy.mono h.pre.length_le
  · exact (h.td q x hx).1 c hc
theorem NB.pool {p : PP} {N : List (List UInt8)} {B : List (List Tup)} (h : NB p N B) {y : Int} (hy : InT p.pool.length y) : N.getD y.toNat [] = p.pool.getD y.toNat [] := by
  obtain ⟨X, hX⟩ := h.pre
  rw [List.getD_eq_getElem?_getD, List.getD_eq_getElem?_getD, ← hX, List.getElem?_append_left hy.2]
/-- Rows of equal names. -/
theorem row_ren {p : PP} {N N' : List (List UInt8)} {B B' : List (List Tup)} (h : NB p N B) (h' : NB p N' B') {q : Nat} (hq : arP p q ≤ 4) {x x' : Tup} (hx : TD p (InT N.length) q x) (hx' : TD p (InT N'.length) q x') (he : nmsT N x (arP p q) = nmsT N' x' (arP p q)) : x' = mT (reB N N') (arP p q) x ∧ ∀ c, c < arP p q → N.getD (tg x c).toNat [] ∈ N' := by
  have hcol : ∀ c, c < arP p q → N.getD (tg x c).toNat [] = N'.getD (tg x' c).toNat [] := fun c hc => by
    have h1 := congrArg (fun l => l.getD c []) he
    try dsimp only at h1
    rw [nmsT_get _ _ hc, nmsT_get _ _ hc] at h1
    exact h1
  refine ⟨tg_ext fun c hc => ?_, fun c hc => ?_⟩
  · rw [tg_mT _ _ _ hc]
    by_cases e : c < arP p q
    · rw [if_pos e]
      unfold reB
      rw [hcol c e, look_at h'.nd (hx'.1 c e)]
    · rw [if_neg e, hx.2 c (by omega) hc, hx'.2 c (by omega) hc]
  · rw [hcol c hc]
    exact List.mem_of_getElem? (getD_at (hx'.1 c hc).2)
theorem map_ren {p : PP} {N N' : List (List UInt8)} {B B' : List (List Tup)} (h : NB p N B) (h' : NB p N' B') {q : Nat} (hq : arP p q ≤ 4) : ∀ (l l' : List Tup), (∀ x ∈ l, TD p (InT N.length) q x) → (∀ x ∈ l', TD p (InT N'.length) q x) → l.map (fun x => nmsT N x (arP p q)) = l'.map (fun x => nmsT N' x (arP p q)) → l' = l.map (mT (reB N N') (arP p q)) ∧ ∀ x ∈ l, ∀ c, c < arP p q → N.getD (tg x c).toNat [] ∈ N'
  | [], [], _, _, _ => ⟨rfl, fun x hx => by cases hx⟩
  | [], _ :: _, _, _, e => by cases e
  | _ :: _, [], _, _, e => by cases e
  | x :: l, x' :: l', hl, hl', e => by
    rw [List.map_cons, List.map_cons] at e
    obtain ⟨e1, e2⟩ := List.cons.inj e
    obtain ⟨g1, g2⟩ := row_ren h h' hq (hl x List.mem_cons_self) (hl' x' List.mem_cons_self) e1
    obtain ⟨g3, g4⟩ := map_ren h h' hq l l' (fun y hy => hl y (List.mem_cons_of_mem _ hy)) (fun y hy => hl' y (List.mem_cons_of_mem _ hy)) e2
    refine ⟨by rw [List.map_cons, g1, g3], fun y hy => ?_⟩
    rcases List.mem_cons.1 hy with e3 | hy
    · rw [e3]; exact g2
    · exact g4 y hy
/-- Two named bases that tell the same. -/
structure Corr (p : PP) (N N' : List (List UInt8)) (B B' : List (List Tup)) : Prop where
  a : NB p N B
  b : NB p N' B'
  len : B'.length = B.length
  nm : ∀ q, nmB p N B q = nmB p N' B' q
  ar : ∀ q, arP p q ≤ 4
theorem Corr.mr {p : PP} {N N' : List (List UInt8)} {B B' : List (List Tup)} (h : Corr p N N' B B') : MR (reB N N') p B B' ∧ ∀ q, ∀ x ∈ rowsAt B q, ∀ c, c < arP p q → N.getD (tg x c).toNat [] ∈ N' := by
  have key : ∀ q, rowsAt B' q = (rowsAt B q).map (mT (reB N N') (arP p q)) ∧ ∀ x ∈ rowsAt B q, ∀ c, c < arP p q → N.getD (tg x c).toNat [] ∈ N' := fun q => by
    by_cases hx : ∃ x, x ∈ rowsAt B q
    · exact map_ren h.a h.b (h.ar q) _ _ (h.a.td q) (h.b.td q) (h.nm q)
    · have e1 : rowsAt B q = [] := List.eq_nil_iff_forall_not_mem.2 (fun x hm => hx ⟨x, hm⟩)
      have e2 : rowsAt B' q = [] := by
        have h9 := h.nm q
        unfold nmB at h9
        rw [e1, List.map_nil] at h9
        exact List.map_eq_nil_iff.1 h9.symm
      rw [e1, e2]
      exact ⟨rfl, fun x hm => by cases hm⟩
  exact ⟨⟨h.len, fun q => (key q).1⟩, fun q => (key q).2⟩
theorem Corr.us {p : PP} {N N' : List (List UInt8)} {B B' : List (List Tup)} (h : Corr p N N' B B') {y : Int} (hy : UsB p B y) : N.getD y.toNat [] ∈ N' := by
  rcases hy with hy | ⟨q, x, c, hx, hc, rfl⟩
  · rw [h.a.pool hy, ← h.b.pool hy]
    exact List.mem_of_getElem? (getD_at (by have := h.b.pre.length_le; have := hy.2; omega))
  · exact h.mr.2 q x hx c hc
theorem Corr.name {p : PP} {N N' : List (List UInt8)} {B B' : List (List Tup)} (h : Corr p N N' B B') {y : Int} (hy : UsB p B y) : N'.getD (reB N N' y).toNat [] = N.getD y.toNat [] ∧ InT N'.length (reB N N' y) := by
  obtain ⟨i, e1, e2⟩ := lookF_get (lookF_in (h.us hy))
  have hil := (List.getElem?_eq_some_iff.1 e2).1
  unfold reB
  rw [e1, Int.toNat_natCast, List.getD_eq_getElem?_getD, e2]
  exact ⟨rfl, by omega, by rw [Int.toNat_natCast]; exact hil⟩
theorem Corr.ren {p : PP} {N N' : List (List UInt8)} {B B' : List (List Tup)} (h : Corr p N N' B B') : Ren (UsB p B) (reB N N') := fun x y hx hy e => by
  have e1 := (h.name hx).1
  have e2 := (h.name hy).1
  rw [e, e2] at e1
  rw [← look_at h.a.nd (h.a.us hx), ← look_at h.a.nd (h.a.us hy), e1]
theorem Corr.fix {p : PP} {N N' : List (List UInt8)} {B B' : List (List Tup)} (h : Corr p N N' B B') {y : Int} (hy : InT p.pool.length y) : reB N N' y = y := by
  unfold reB
  rw [h.a.pool hy, ← h.b.pool hy]
  exact look_at h.b.nd (hy.mono h.b.pre.length_le)
/-- The models tell the same. -/
theorem Corr.perf {p : PP} {N N' : List (List UInt8)} {B B' : List (List Tup)} (h : Corr p N N' B B') (hr : ∀ r ∈ p.rules, RuD p (InT p.pool.length) r) {R : List (List Tup)} (hP : PerfTo p 0 B R) : ∃ R', PerfTo p 0 B' R' ∧ overB R' = overB R ∧ ∀ q, nmB p N R q = nmB p N' R' q := by
  have hD : RD' p (UsB p B) B := fun q x hx => ⟨fun c hc => .inr ⟨q, x, c, hx, hc, rfl⟩, (h.a.td q x hx).2⟩
  have hru : ∀ r ∈ p.rules, RuD p (UsB p B) r := fun r hr' => (hr r hr').mono (fun y hy => .inl hy)
  have hcf : ∀ r ∈ p.rules, CFix (reB N N') r.head ∧ ∀ l ∈ r.body, CFix (reB N N') l.atom := fun r hr' => ⟨fun c hc hv => h.fix (((hr r hr').1.2.2 c hc).2 hv), fun l hl c hc hv => h.fix ((((hr r hr').2.1 l hl).2.2 c hc).2 hv)⟩
  obtain ⟨R', h1, h2⟩ := hP.ren h.ren hru hcf hD h.mr.1
  have hR := hP.dom hru hD
  refine ⟨R', h1, h2.over, fun q => ?_⟩
  unfold nmB
  rw [h2.row q, List.map_map]
  refine List.map_congr_left fun x hx => ?_
  show nmsT N x (arP p q) = nmsT N' (mT (reB N N') (arP p q) x) (arP p q)
  unfold nmsT
  refine List.map_congr_left fun c hc => ?_
  have hc' := List.mem_range.1 hc
  rw [tg_mT _ _ _ (by have := h.ar q; omega), if_pos hc', (h.name ((hR q x hx).1 c hc')).1]
theorem ar4 {p : PP} (h : PPok p) (q : Nat) : arP p q ≤ 4 := by
  by_cases hq : q < p.preds.length
  · exact (pI_ar h hq).2
  · unfold arP pI
    rw [List.getD_eq_getElem?_getD, List.getElem?_eq_none (by omega)]
    show (PredInfo.zero.arity).toNat ≤ 4
    exact Nat.zero_le _
/-- Two instances that tell the same. -/
structure Sim (t u : InsS) : Prop where
  p : t.p = u.p
  nm : ∀ q, nmB t.p t.N (basR t.p t.R) q = nmB t.p u.N (basR t.p u.R) q
theorem InG.nb {t : InsS} (h : InG t) : NB t.p t.N (basR t.p t.R) := ⟨h.nn.1, h.pre, h.dom⟩
theorem Sim.corr {t u : InsS} (h : Sim t u) (ht : InG t) (hu : InG u) : Corr t.p t.N u.N (basR t.p t.R) (basR t.p u.R) := by
  have hb := hu.nb
  rw [← h.p] at hb
  exact ⟨ht.nb, hb, by rw [basR_len, basR_len], h.nm, ar4 ht.pg.pok⟩
/-- All relations tell the same. -/
theorem Sim.all {t u : InsS} (h : Sim t u) (ht : InG t) (hu : InG u) : ∀ q, nmB t.p t.N t.R q = nmB t.p u.N u.R q := by
  obtain ⟨R', h1, -, h3⟩ := (h.corr ht hu).perf ht.pg.rul ht.der
  have hd := hu.der
  rw [← h.p] at hd
  have e := h1.det hd
  rw [e] at h3
  exact h3
theorem Sim.refl (t : InsS) : Sim t t := ⟨rfl, fun _ => rfl⟩
theorem Sim.symm {t u : InsS} (h : Sim t u) : Sim u t := ⟨h.p.symm, fun q => by rw [← h.p]; exact (h.nm q).symm⟩
theorem Sim.trans {t u v : InsS} (h : Sim t u) (h' : Sim u v) : Sim t v := ⟨h.p.trans h'.p, fun q => by
  have h2 := h'.nm q
  rw [← h.p] at h2
  exact (h.nm q).trans h2⟩
/-- The names in use. -/
theorem usB_iff {t : InsS} (h : InG t) {y : Int} : UsD t y ↔ UsB t.p (basR t.p t.R) y := by
  constructor
  · intro hy
    have h1 := hy.2.1
    unfold useN at h1
    by_cases e : y.toNat < t.p.pool.length
    · exact .inl ⟨hy.1, e⟩
    · rw [if_neg e, Nat.zero_add] at h1
      obtain ⟨q, hq, hb, x, hx, c, hc, e2⟩ := occ_pos.1 h1
      refine .inr ⟨q, x, c, hx, hc, ?_⟩
      have h3 := ((h.dom q x hx).1 c hc).1
      have := hy.1
      omega
  · rintro (hy | ⟨q, x, c, hx, hc, rfl⟩)
    · exact usd_pool h hy
    · exact (usd_rd h q x (bas_mem hx).1).1 c hc
def UsN (t : InsS) (nm : List UInt8) : Prop := ∃ y, UsD t y ∧ t.N.getD y.toNat [] = nm
theorem Sim.us {t u : InsS} (h : Sim t u) (ht : InG t) (hu : InG u) {nm : List UInt8} (hn : UsN t nm) : UsN u nm := by
  obtain ⟨y, hy, e⟩ := hn
  have hc := h.corr ht hu
  have hy2 := (usB_iff ht).1 hy
  refine ⟨reB t.N u.N y, ?_, by rw [(hc.name hy2).1]; exact e⟩
  rw [usB_iff hu, ← h.p]
  rcases hy2 with h1 | ⟨q, x, c, hx, hcc, e2⟩
  · left; rw [hc.fix h1]; exact h1
  · right
    have hm := hc.mr.1.row q
    refine ⟨q, mT (reB t.N u.N) (arP t.p q) x, c, by rw [hm]; exact List.mem_map.2 ⟨x, hx, rfl⟩, hcc, ?_⟩
    rw [tg_mT _ _ _ (by have := hc.ar q; omega), if_pos hcc, e2]
theorem used_iff {t : InsS} (h : InG t) {nm : List UInt8} : UsN t nm ↔ (lookF t.N nm ≠ -1 ∧ 0 < t.U (lookF t.N nm).toNat) := by
  constructor
  · rintro ⟨y, hy, rfl⟩
    have hu := hy.u h
    have e := look_nodup h.nn.1 hu.2.1
    rw [e]
    exact ⟨by omega, by rw [Int.toNat_natCast]; exact hu.1⟩
  · rintro ⟨h1, h2⟩
    obtain ⟨i, e1, e2⟩ := lookF_get h1
    rw [e1, Int.toNat_natCast] at h2
    have hil := (List.getElem?_eq_some_iff.1 e2).1
    refine ⟨(i : Int), ⟨by omega, ?_, by rw [Int.toNat_natCast]; exact hil⟩, ?_⟩
    · rw [h.cnt.us i (by have := h.nl; omega)] at h2
      rw [Int.toNat_natCast]; omega
    · rw [Int.toNat_natCast, List.getD_eq_getElem?_getD, e2]; rfl
/-- What is demanded depends on the names in use alone. -/
theorem demA_sim {t u : InsS} (he : ∀ nm, (lookF t.N nm ≠ -1 ∧ 0 < t.U (lookF t.N nm).toNat) ↔ (lookF u.N nm ≠ -1 ∧ 0 < u.U (lookF u.N nm).toNat)) (X X' : List (List UInt8) × Nat) (hX : X.1 = X'.1) (nm : List UInt8) : (demA t.N t.U X nm).1 = (demA u.N u.U X' nm).1 := by
  unfold demA
  by_cases h : (lookF t.N nm ≠ -1 ∧ 0 < t.U (lookF t.N nm).toNat) ∨ nm ∈ X.1
  · rw [if_pos h, if_pos (by
      rcases h with h | h
      · exact .inl ((he nm).1 h)
      · exact .inr (hX ▸ h))]
    exact hX
  · have h' : ¬ ((lookF u.N nm ≠ -1 ∧ 0 < u.U (lookF u.N nm).toNat) ∨ nm ∈ X'.1) := fun h9 => h (by
      rcases h9 with h9 | h9
      · exact .inl ((he nm).2 h9)
      · exact .inr (by rw [hX]; exact h9))
    rw [if_neg h, if_neg h']
    show X.1 ++ [nm] = X'.1 ++ [nm]
    rw [hX]
theorem demL_sim {t u : InsS} (he : ∀ nm, (lookF t.N nm ≠ -1 ∧ 0 < t.U (lookF t.N nm).toNat) ↔ (lookF u.N nm ≠ -1 ∧ 0 < u.U (lookF u.N nm).toNat)) : ∀ (args : List (List UInt8)) (X X' : List (List UInt8) × Nat), X.1 = X'.1 → (args.foldl (demA t.N t.U) X).1 = (args.foldl (demA u.N u.U) X').1
  | [], _, _, h => h
  | a :: args, X, X', h => by
    rw [List.foldl_cons, List.foldl_cons]
    exact demL_sim he args _ _ (demA_sim he X X' h a)
theorem demF_sim {t u : InsS} (he : ∀ nm, (lookF t.N nm ≠ -1 ∧ 0 < t.U (lookF t.N nm).toNat) ↔ (lookF u.N nm ≠ -1 ∧ 0 < u.U (lookF u.N nm).toNat)) : ∀ (L : List It) (X X' : List (List UInt8) × Nat), X.1 = X'.1 → (L.foldl (demI t.N t.U) X).1 = (L.foldl (demI u.N u.U) X').1
  | [], _, _, h => h
  | it :: L, X, X', h => by
    rw [List.foldl_cons, List.foldl_cons]
    refine demF_sim he L _ _ ?_
    unfold demI
    cases it.1 with
    | true => rw [if_pos rfl, if_pos rfl]; exact h
    | false => rw [if_neg (by decide), if_neg (by decide)]; exact demL_sim he _ _ _ h
theorem usedL_nodup {t : InsS} (h : InG t) : ∀ n, n ≤ 256 → (usedL t n).Nodup ∧ ∀ nm ∈ usedL t n, ∃ y, y < n ∧ 0 < t.U y ∧ t.N[y]? = some nm
  | 0, _ => ⟨List.nodup_nil, fun nm hm => absurd (show nm ∈ ([] : List (List UInt8)) from hm) (by simp)⟩
  | n + 1, hn => by
    obtain ⟨h1, h2⟩ := usedL_nodup h n (by omega)
    unfold usedL
    by_cases hp : 0 < t.U n
    · rw [if_pos hp]
      have hlt : n < t.N.length := by
        apply Classical.byContradiction
        intro hc
        rw [h.cnt.us n (by omega)] at hp
        have h3 := h.pre.length_le
        unfold useN at hp
        rw [if_neg (by omega), Nat.zero_add] at hp
        obtain ⟨q, -, -, x, hx, c, hcc, hv⟩ := occ_pos.1 (show 0 < occ t.p (basR t.p t.R) n by omega)
        have := ((h.dom q x hx).1 c hcc).2
        omega
      refine ⟨?_, fun nm hm => ?_⟩
      · rw [List.nodup_append]
        refine ⟨h1, by simp, fun a ha b hb e => ?_⟩
        obtain ⟨y, hy, -, hya⟩ := h2 a ha
        rw [List.mem_singleton.1 hb] at e
        have k1 := look_nodup h.nn.1 hya
        have k2 := look_nodup h.nn.1 (getD_at hlt)
        rw [e] at k1
        omega
      · rcases List.mem_append.1 hm with hm | hm
        · obtain ⟨y, h3, h4, h5⟩ := h2 nm hm
          exact ⟨y, by omega, h4, h5⟩
        · rw [List.mem_singleton.1 hm]
          exact ⟨n, by omega, hp, getD_at hlt⟩
    · rw [if_neg hp, List.append_nil]
      exact ⟨h1, fun nm hm => by
        obtain ⟨y, h3, h4, h5⟩ := h2 nm hm
        exact ⟨y, by omega, h4, h5⟩⟩
theorem used_mem {t : InsS} (h : InG t) {nm : List UInt8} : nm ∈ usedL t 256 ↔ UsN t nm := by
  constructor
  · intro hm
    obtain ⟨y, h1, h2, h3⟩ := (usedL_nodup h 256 (Nat.le_refl _)).2 nm hm
    rw [used_iff h, look_nodup h.nn.1 h3, Int.toNat_natCast]
    exact ⟨by omega, h2⟩
  · rintro ⟨y, hy, rfl⟩
    have hu := hy.u h
    exact usedL_mem t hu.1 256 hu.2.2
/-- As many constants in use. -/
theorem Sim.live {t u : InsS} (h : Sim t u) (ht : InG t) (hu : InG u) : t.live = u.live := by
  have k1 := nodup_sub _ _ (usedL_nodup ht 256 (Nat.le_refl _)).1 (fun x hx => (used_mem hu).2 (h.us ht hu ((used_mem ht).1 hx)))
  have k2 := nodup_sub _ _ (usedL_nodup hu 256 (Nat.le_refl _)).1 (fun x hx => (used_mem ht).2 (h.symm.us hu ht ((used_mem hu).1 hx)))
  rw [usedL_len, usedL_len] at k1 k2
  rw [ht.cnt.lv, hu.cnt.lv]
  unfold livN
  omega
theorem Sim.dem {t u : InsS} (h : Sim t u) (ht : InG t) (hu : InG u) (L : List It) : (demF t.N t.U L).1 = (demF u.N u.U L).1 := demF_sim (fun nm => by rw [← used_iff ht, ← used_iff hu]; exact ⟨h.us ht hu, h.symm.us hu ht⟩) L _ _ rfl
end Go.Proofs.Qxb6500787aGreat
