
import Derived.Test.Qxb6500787aGreatZs
import Derived.Test.Qxb6500787aGreatZo
import Derived.StillTailTactics
import Derived.Deep.QuietTactic
import Derived.BigQuiet
import Derived.Deep.RegionHeld
import Derived.Deep.CutRange
import Derived.Laws.ResultCell
import Derived.Laws.Rows
import Derived.DeepKeys
import Derived.DataBytes
import Derived.Laws.StructEq
import Derived.Laws.AppendOwn
import Derived.Laws.MakeOwn
import Derived.Lib.AppendStr
set_option linter.unusedSimpArgs false
set_option linter.unusedVariables false
namespace Go.Proofs.Qxb6500787aGreat
open Go.RowKit Go.Blk
attribute [local go_sem ↓] execOp_load execOp_store execOp_alloc
attribute [local go_sem] Tryz.ld26 Tryz.st26 Tryz.ld27 Tryz.st27 Tryz.ld28 Tryz.st28 Tryz.ld3 Tryz.st3 Tryz.ld29 Tryz.st29 Tryz.ld44 Tryz.st44 Tryz.ld4 Tryz.st4 Tryz.ld50 Tryz.st50 Tryz.ld32 Tryz.st32 Tryz.ld49 Tryz.st49 Tryz.ld68 Tryz.st68 Tryz.ld9 Tryz.st9 Tryz.ld40 Tryz.st40 Tryz.ld138 Tryz.st138 Tryz.ld139 Tryz.st139 Tryz.ld146 Tryz.st146 Tryz.ld183 Tryz.st183 Tryz.ld184 Tryz.st184 Tryz.ld192 Tryz.st192 Tryz.ld195 Tryz.st195 Tryz.ld217 Tryz.st217 Tryz.ld159 Tryz.st159 Tryz.ld142 Tryz.st142 Tryz.ld2 Tryz.st2 Tryz.ld5 Tryz.st5 Tryz.ld12 Tryz.st12 Tryz.ld21 Tryz.st21 Tryz.ld22 Tryz.st22 Tryz.ld24 Tryz.st24 Tryz.ld58 Tryz.st58 Tryz.ld97 Tryz.st97 Tryz.ld101 Tryz.st101 Tryz.ld116 Tryz.st116 Tryz.ld121 Tryz.st121 Tryz.ld135 Tryz.st135 Tryz.ld136 Tryz.st136 Tryz.ld143 Tryz.st143 Tryz.ld148 Tryz.st148 Tryz.ld154 Tryz.st154 Tryz.ld173 Tryz.st173 Tryz.ld187 Tryz.st187 Tryz.ld222 Tryz.st222 Tryz.ld241 Tryz.st241 Tryz.ld248 Tryz.st248 Tryz.ld268 Tryz.st268 Tryz.ld272 Tryz.st272 Tryz.ld153 Tryz.st153 Tryz.ld255 Tryz.st255 Tryz.ld256 Tryz.st256 Tryz.ld129 Tryz.st129 Tryz.ld152 Tryz.st152 Tryz.ld31 Tryz.st31 Tryz.ld46 Tryz.st46 Tryz.ld52 Tryz.st52 Tryz.ld54 Tryz.st54 Tryz.ld60 Tryz.st60 Tryz.ld70 Tryz.st70 Tryz.ld74 Tryz.st74 Tryz.ld93 Tryz.st93 Tryz.ld141 Tryz.st141 Tryz.ld151 Tryz.st151 Tryz.ld170 Tryz.st170 Tryz.ld186 Tryz.st186 Tryz.ld189 Tryz.st189 Tryz.ld194 Tryz.st194 Tryz.ld197 Tryz.st197 Tryz.ld219 Tryz.st219 Tryz.ld224 Tryz.st224 Tryz.ld230 Tryz.st230 Tryz.ld235 Tryz.st235 Tryz.ld243 Tryz.st243 Tryz.ld247 Tryz.st247 Tryz.ld252 Tryz.st252 Tryz.ld258 Tryz.st258 Tryz.al153 Tryz.al255 Tryz.al256 Tryz.al129 Tryz.al152 Tryz.al31 Tryz.al46 Tryz.al52 Tryz.al54 Tryz.al60 Tryz.al70 Tryz.al74 Tryz.al93 Tryz.al141 Tryz.al151 Tryz.al170 Tryz.al186 Tryz.al189 Tryz.al194 Tryz.al197 Tryz.al219 Tryz.al224 Tryz.al230 Tryz.al235 Tryz.al243 Tryz.al247 Tryz.al252 Tryz.al258
attribute [local go_sem] Request.length_enc Request.ok_enc Request.all_get Request.all_set Request.kind_get Request.kind_set Request.blob_get Request.blob_set Request.items_get Request.items_set Request.pred_get Request.pred_set Request.slots_get Request.slots_set Trace.length_enc Trace.ok_enc Trace.all_get Trace.all_set Trace.op_get Trace.op_set Trace.calls_get Trace.calls_set Item.length_enc Item.ok_enc Item.all_get Item.all_set Item.del_get Item.del_set Item.pred_get Item.pred_set Item.args_get Item.args_set Reply.length_enc Reply.ok_enc Reply.all_get Reply.all_set Reply.code_get Reply.code_set Reply.kind_get Reply.kind_set Reply.index_get Reply.index_set Reply.yes_get Reply.yes_set Reply.preds_get Reply.preds_set Reply.rules_get Reply.rules_set Reply.arity_get Reply.arity_set Reply.rows_get Reply.rows_set Reply.fact_get Reply.fact_set Reply.fact_del_get Reply.fact_del_set Reply.fact_pred_get Reply.fact_pred_set Reply.fact_args_get Reply.fact_args_set GEntry.length_enc GEntry.ok_enc GEntry.all_get GEntry.all_set GEntry.seq_get GEntry.seq_set GEntry.kind_get GEntry.kind_set GEntry.code_get GEntry.code_set GOp.length_enc GOp.ok_enc GOp.all_get GOp.all_set GOp.kind_get GOp.kind_set GOp.raw_get GOp.raw_set Reader.length_enc Reader.ok_enc Reader.all_get Reader.all_set Reader.buf_get Reader.buf_set Reader.at__get Reader.at__set Slot.length_enc Slot.ok_enc Slot.all_get Slot.all_set Slot.bound_get Slot.bound_set Slot.name_get Slot.name_set Session.length_enc Session.ok_enc Session.all_get Session.all_set Session.svc_get Session.svc_set Session.buf_get Session.buf_set Session.closed_get Session.closed_set GProgram.length_enc GProgram.ok_enc GProgram.all_get GProgram.all_set GProgram.pool_get GProgram.pool_set GProgram.preds_get GProgram.preds_set GProgram.rules_get GProgram.rules_set GProgram.strata_get GProgram.strata_set PredInfo.length_enc PredInfo.ok_enc PredInfo.all_get PredInfo.all_set PredInfo.arity_get PredInfo.arity_set PredInfo.base_get PredInfo.base_set PredInfo.stratum_get PredInfo.stratum_set Change.length_enc Change.ok_enc Change.all_get Change.all_set Change.del_get Change.del_set Change.pred_get Change.pred_set Change.t_get Change.t_set Store.length_enc Store.ok_enc Store.all_get Store.all_set Store.names_get Store.names_set Store.arity_get Store.arity_set Store.rows_get Store.rows_set Src.length_enc Src.ok_enc Src.all_get Src.all_set Src.b_get Src.b_set Src.at__get Src.at__set Atom.length_enc Atom.ok_enc Atom.all_get Atom.all_set Atom.pred_get Atom.pred_set Atom.args_get Atom.args_set GRule.length_enc GRule.ok_enc GRule.all_get GRule.all_set GRule.head_get GRule.head_set GRule.body_get GRule.body_set GRule.head_pred_get GRule.head_pred_set GRule.head_args_get GRule.head_args_set Cert.length_enc Cert.ok_enc Cert.all_get Cert.all_set Cert.names_get Cert.names_set Cert.nodes_get Cert.nodes_set Fact.length_enc Fact.ok_enc Fact.all_get Fact.all_set Fact.pred_get Fact.pred_set Fact.t_get Fact.t_set Literal.length_enc Literal.ok_enc Literal.all_get Literal.all_set Literal.neg_get Literal.neg_set Literal.atom_get Literal.atom_set Literal.atom_pred_get Literal.atom_pred_set Literal.atom_args_get Literal.atom_args_set Engine.length_enc Engine.ok_enc Engine.all_get Engine.all_set Engine.prog_get Engine.prog_set Engine.st_get Engine.st_set SrcCertm.length_enc SrcCertm.ok_enc SrcCertm.all_get SrcCertm.all_set SrcCertm.b_get SrcCertm.b_set SrcCertm.at__get SrcCertm.at__set GNode.length_enc GNode.ok_enc GNode.all_get GNode.all_set GNode.rule_get GNode.rule_set GNode.pred_get GNode.pred_set GNode.vals_get GNode.vals_set GNode.refs_get GNode.refs_set Term.length_enc Term.ok_enc Term.all_get Term.all_set Term.var_get Term.var_set Term.n_get Term.n_set Env.length_enc Env.ok_enc Env.all_get Env.all_set Env.val_get Env.val_set Env.set_get Env.set_set
attribute [local go_sem] size_put size_ext blk_put free_put blk_alloc free_alloc blk_drew free_drew blk_ext free_ext lookOr_some putOr_some segAt_some cellAt_some storeIn_some put_put put_alloc_new length_arr ok_arr_u8 ok_arr_u32 ok_arr_u64 ok_arr_i64 ok_arr_sl cellsV_agg cellsV_int cellsV_bool cellsV_string cellsV_pointer cellsV_slice cellsV_sl ok_int ok_bool ok_string ok_pointer ok_slice ok_sl toList_arr seg_arr set_arr nth_splice nth_splice0 seg_splice seg_splice0 splice_splice splice_splice0 length_splice_if
attribute [local go_sem ↓] execOp_box
attribute [local go_sem] box_run nth_arr_u8 put_arr_u8 blk_drewN free_drewN put_drewN blk_raw free_raw
/-- The base of a model is what it was made of. -/
theorem bas_nm {p : PP} (hN : NoBase p) {B R : List (List Tup)} (hP : PerfTo p 0 B R) {N : List (List UInt8)} (q : Nat) : nmB p N (basR p R) q = if q < p.preds.length ∧ (pI p q).base = true then nmB p N B q else [] := by
  unfold nmB
  by_cases h : q < p.preds.length ∧ (pI p q).base = true
  · rw [if_pos h, rowsAt_some (basR_at p R h.1), if_pos h.2, hP.base hN h.2]
  · rw [if_neg h]
    cases hx : rowsAt (basR p R) q with
    | nil => rfl
    | cons x l => exact absurd (bas_mem (p := p) (R := R) (q := q) (x := x) (by rw [hx]; exact List.mem_cons_self)).2 h
/-- A batch that goes through on one side goes through on the other. -/
theorem bat_sim {t u : InsS} (h : Sim t u) (ht : InG t) (hu : InG u) {G G' : List (List UInt8)} (hG : G.length ≤ 256) (hG' : G'.length ≤ 256) (hF : Fits G t.N) (hF' : Fits G' u.N) {L : List It} (hL : ∀ it ∈ L, ItF t.p t.p.preds.length it ∧ (it.1 = false → (∀ x ∈ it.2.2, x ∈ G) ∧ ∀ x ∈ it.2.2, x ∈ G')) {ix : Int} {R' : List (List Tup)} (hB : BatR t.p t.R (btG t.N L) 0 ix R') {code ix' : Int} {R'' : List (List Tup)} (hB' : BatR u.p u.R (btG u.N L) code ix' R'') : code = 0 ∧ ∀ q, nmB t.p (btN t.N L) (basR t.p R') q = nmB t.p (btN u.N L) (basR t.p R'') q := by
  obtain ⟨b1, b2, -, b4, -⟩ := hB.zero
  obtain ⟨k1, k2⟩ := bt_sim hG hG' L t.N u.N (basR t.p t.R) (basR t.p u.R) 0 0 (h.corr ht hu) hF hF' ht.nn hu.nn (fun it hi => by rw [basR_len]; exact hL it hi) b1
  obtain ⟨R2, p1, p2, -⟩ := k2.perf ht.pg.rul b2
  rw [← h.p] at hB'
  rcases hB' with ⟨c1, -⟩ | ⟨-, P2, c2, -, c4, -, c6⟩
  · exact absurd k1 c1
  · have e := c2.det p1
    have ho : overB P2 = false := by rw [e, p2]; exact b4
    rw [ho, if_neg (by decide)] at c4 c6
    refine ⟨c4, fun q => ?_⟩
    rw [bas_nm ht.pg.nob b2, c6, bas_nm ht.pg.nob c2, k2.nm q]
/-- Room on one side is room on the other. -/
theorem mr_both {t u : InsS} (h : Sim t u) (ht : InG t) (hu : InG u) (hF : FstO t.p) {L : List It} {t1 u1 : InsS} {co co' code : Int} (hm : MrR t L 0 t1 co) (hm' : MrR u L code u1 co') : code = 0 := by
  have hFu : FstO u.p := by rw [← h.p]; exact hF
  have hlt : ¬ 256 < t.live + ((demF t.N t.U L).1.length : Int) := by
    rcases hm with ⟨-, e, -⟩ | ⟨h1, -⟩ | ⟨h1, -⟩
    · cases e
    · exact h1
    · exact h1
  rw [h.live ht hu, h.dem ht hu L] at hlt
  rcases hm' with ⟨h1, -⟩ | ⟨-, -, e, -⟩ | ⟨-, -, cc, s1, hc, ⟨h2, -⟩ | ⟨-, e, -⟩⟩
  · exact absurd h1 hlt
  · exact e
  · exact absurd (col_all hu hFu hc).1 h2
  · exact e
/-- Two services that cannot be told apart. -/
structure SvSim (s w : Sv) : Prop where
  img : s.img = w.img
  ins : (s.inst = none ∧ w.inst = none) ∨ ∃ t u, s.inst = some t ∧ w.inst = some u ∧ Sim t u
theorem SvSim.zero : SvSim Sv.zero Sv.zero := ⟨rfl, .inl ⟨rfl, rfl⟩⟩
/-- All that is true of a service. -/
structure SvA (s : Sv) : Prop where
  g : ∀ t, s.inst = some t → InG t
  f : SvF s
theorem SvSim.left {s s' w : Sv} (h : SvSim s w) (hi : s'.img = s.img) (hs : s'.inst = s.inst ∨ ∃ t t', s.inst = some t ∧ s'.inst = some t' ∧ Sim t t') : SvSim s' w := by
  refine ⟨hi.trans h.img, ?_⟩
  rcases hs with e | ⟨t, t', e1, e2, e3⟩
  · rw [e]; exact h.ins
  · rcases h.ins with ⟨e4, -⟩ | ⟨t0, u, e4, e5, e6⟩
    · rw [e4] at e1; cases e1
    · rw [e4] at e1; cases e1
      exact .inr ⟨t', u, e2, e5, e3.symm.trans e6⟩
theorem itf_of {p : PP} (hp : PPok p) {it : It} (h0 : 0 ≤ it.2.1) (h64 : ∀ x ∈ it.2.2, x.length ≤ 64) (hc : cuF p it.2.1.toNat it.2.2.length = 0) : ItF p p.preds.length it := by
  obtain ⟨c1, -, c3⟩ := cuF_zero hp hc
  exact ⟨h0, c1, c3, h64⟩
/-- An insertion. -/
theorem in_sim {s w s1 w1 : Sv} {t u : InsS} (hs : s.inst = some t) (hw : w.inst = some u) (h : Sim t u) (ht : InG t) (hu : InG u) (hF : FstO t.p) {pr : Nat} {args : List (List UInt8)} (h64 : ∀ x ∈ args, x.length ≤ 64) {rep : Reply} (hi : inR s t pr args rep s1) : s1.img = s.img ∧ (∃ t', s1.inst = some t' ∧ (rep.code ≠ 0 → Sim t t') ∧ (rep.code = 0 → ∀ rep2, inR w u pr args rep2 w1 → rep2 = rep ∧ w1.img = w.img ∧ ∃ u', w1.inst = some u' ∧ Sim t' u')) := by
  have hFu : FstO u.p := by rw [← h.p]; exact hF
  rcases hi with ⟨h1, rfl, rfl⟩ | ⟨h1, mc, t1, co, hm, hi⟩
  · exact ⟨rfl, t, hs, fun _ => Sim.refl _, fun e => absurd e h1⟩
  have hst := mr_sim ht hF hm
  obtain ⟨g1, g2⟩ := hm.ing ht
  obtain ⟨m1, m2⟩ := mr_room ht hF hm
  rcases hi with ⟨h2, rfl, rfl⟩ | ⟨rfl, hi⟩
  · exact ⟨rfl, t1, rfl, fun _ => hst, fun e => absurd e h2⟩
  have hex := intF_ex g1.nn g1.nl h64
  rcases hi with ⟨-, rfl, rfl⟩ | ⟨-, code, ix, R', hB, hi⟩
  · exact ⟨rfl, _, rfl, fun _ => hst.trans (tab_sim g1 hex), fun e => absurd (show (17 : Int) = 0 from e) (by decide)⟩
  rcases hi with ⟨h3, rfl, rfl⟩ | ⟨rfl, rfl, rfl⟩
  · exact ⟨rfl, _, rfl, fun _ => hst.trans (tab_sim g1 hex), fun e => absurd e h3⟩
  refine ⟨rfl, _, rfl, fun e => absurd rfl e, fun _ rep2 hi2 => ?_⟩
  rcases hi2 with ⟨k1, -⟩ | ⟨-, mc', u1, co', hm', hi2⟩
  · rw [← h.p] at k1; exact absurd h1 k1
  have hmc := mr_both h ht hu hF hm hm'
  subst hmc
  have hsu := mr_sim hu hFu hm'
  obtain ⟨gu1, gu2⟩ := hm'.ing hu
  obtain ⟨G, q1, q2, q3⟩ := m2 rfl
  obtain ⟨G', q1', q2', q3'⟩ := (mr_room hu hFu hm').2 rfl
  rcases hi2 with ⟨k2, -⟩ | ⟨-, hi2⟩
  · exact absurd rfl k2
  have hfi := (intF_fits q1' q2' (args := args) (fun x hx => q3' _ List.mem_cons_self rfl x hx)).1
  rcases hi2 with ⟨k3, -⟩ | ⟨-, code', ix', R'', hB', hi2⟩
  · exact absurd hfi k3
  have hS1 : Sim t1 u1 := (hst.symm.trans h).trans hsu
  have hcu : cuF t1.p pr args.length = 0 := by rw [g2]; exact h1
  have hpt : ((pr : Int)).toNat = pr := Int.toNat_natCast _
  obtain ⟨c0, hnm⟩ := bat_sim hS1 g1 gu1 q1 q1' q2 q2' (L := [(false, (pr : Int), args)]) (fun it hit => by
    rw [List.mem_singleton.1 hit]
    exact ⟨itf_of g1.pg.pok (by show (0 : Int) ≤ (pr : Int); omega) h64 (by show cuF t1.p ((pr : Int)).toNat args.length = 0; rw [hpt]; exact hcu), fun _ => ⟨fun x hx => q3 _ List.mem_cons_self rfl x hx, fun x hx => q3' _ List.mem_cons_self rfl x hx⟩⟩) hB hB'
  rcases hi2 with ⟨k4, -⟩ | ⟨-, rfl, rfl⟩
  · exact absurd c0 k4
  refine ⟨rfl, rfl, _, rfl, ?_⟩
  obtain ⟨e1, e2, e3⟩ := setsS_p [inC t1 pr args] ((t1.tab (intF t1.N args).2.2).rel R')
  obtain ⟨e4, e5, e6⟩ := setsS_p [inC u1 pr args] ((u1.tab (intF u1.N args).2.2).rel R'')
  have e1' : (setS ((t1.tab (intF t1.N args).2.2).rel R') (inC t1 pr args)).p = t1.p := e1
  have e2' : (setS ((t1.tab (intF t1.N args).2.2).rel R') (inC t1 pr args)).N = (intF t1.N args).2.2 := e2
  have e3' : (setS ((t1.tab (intF t1.N args).2.2).rel R') (inC t1 pr args)).R = R' := e3
  have e4' : (setS ((u1.tab (intF u1.N args).2.2).rel R'') (inC u1 pr args)).p = u1.p := e4
  have e5' : (setS ((u1.tab (intF u1.N args).2.2).rel R'') (inC u1 pr args)).N = (intF u1.N args).2.2 := e5
  have e6' : (setS ((u1.tab (intF u1.N args).2.2).rel R'') (inC u1 pr args)).R = R'' := e6
  refine ⟨by rw [e1', e4']; exact hS1.p, fun q => ?_⟩
  rw [e1', e2', e3', e5', e6']
  exact hnm q
/-- A deletion. -/
theorem rm_sim {s w s1 w1 : Sv} {t u : InsS} (hs : s.inst = some t) (hw : w.inst = some u) (h : Sim t u) (ht : InG t) (hu : InG u) {pr : Nat} {args : List (List UInt8)} (h64 : ∀ x ∈ args, x.length ≤ 64) {rep : Reply} (hi : rmR s t pr args rep s1) : s1.img = s.img ∧ (∃ t', s1.inst = some t' ∧ (rep.code ≠ 0 → Sim t t') ∧ (rep.code = 0 → ∀ rep2, rmR w u pr args rep2 w1 → rep2 = rep ∧ w1.img = w.img ∧ ∃ u', w1.inst = some u' ∧ Sim t' u')) := by
  rcases hi with ⟨h1, rfl, rfl⟩ | ⟨h1, code, ix, R', hB, hi⟩
  · exact ⟨rfl, t, hs, fun _ => Sim.refl _, fun e => absurd e h1⟩
  rcases hi with ⟨h3, rfl, rfl⟩ | ⟨rfl, rfl, rfl⟩
  · exact ⟨rfl, t, rfl, fun _ => Sim.refl _, fun e => absurd e h3⟩
  refine ⟨rfl, _, rfl, fun e => absurd rfl e, fun _ rep2 hi2 => ?_⟩
  rcases hi2 with ⟨k1, -⟩ | ⟨-, code', ix', R'', hB', hi2⟩
  · rw [← h.p] at k1; exact absurd h1 k1
  have hpt : ((pr : Int)).toNat = pr := Int.toNat_natCast _
  obtain ⟨c0, hnm⟩ := bat_sim h ht hu ht.nl hu.nl ⟨ht.nn.1, fun x hx => hx⟩ ⟨hu.nn.1, fun x hx => hx⟩ (L := [(true, (pr : Int), args)]) (fun it hit => by
    rw [List.mem_singleton.1 hit]
    exact ⟨itf_of ht.pg.pok (by show (0 : Int) ≤ (pr : Int); omega) h64 (by show cuF t.p ((pr : Int)).toNat args.length = 0; rw [hpt]; exact h1), fun e => by cases e⟩) hB hB'
  rcases hi2 with ⟨k4, -⟩ | ⟨-, rfl, rfl⟩
  · exact absurd c0 k4
  refine ⟨rfl, rfl, _, rfl, ?_⟩
  obtain ⟨e1, e2, e3⟩ := setsS_p [rmC t pr args] ⟨t.p, t.N, R', t.U, t.live⟩
  obtain ⟨e4, e5, e6⟩ := setsS_p [rmC u pr args] ⟨u.p, u.N, R'', u.U, u.live⟩
  have e1' : (setS ⟨t.p, t.N, R', t.U, t.live⟩ (rmC t pr args)).p = t.p := e1
  have e2' : (setS ⟨t.p, t.N, R', t.U, t.live⟩ (rmC t pr args)).N = t.N := e2
  have e3' : (setS ⟨t.p, t.N, R', t.U, t.live⟩ (rmC t pr args)).R = R' := e3
  have e4' : (setS ⟨u.p, u.N, R'', u.U, u.live⟩ (rmC u pr args)).p = u.p := e4
  have e5' : (setS ⟨u.p, u.N, R'', u.U, u.live⟩ (rmC u pr args)).N = u.N := e5
  have e6' : (setS ⟨u.p, u.N, R'', u.U, u.live⟩ (rmC u pr args)).R = R'' := e6
  refine ⟨by rw [e1', e4']; exact h.p, fun q => ?_⟩
  rw [e1', e2', e3', e5', e6']
  exact hnm q
end Go.Proofs.Qxb6500787aGreat
