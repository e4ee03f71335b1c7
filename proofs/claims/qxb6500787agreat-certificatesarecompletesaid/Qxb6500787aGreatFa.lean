import Derived.Test.Qxb6500787aGreatEs

import Derived.StillTailTactics
import Derived.Deep.QuietTactic
import Derived.BigQuiet
import Derived.Deep.RegionHeld
import Derived.Deep.CutRange
import Derived.Laws.ResultCell
import Derived.Laws.Rows
import Derived.DeepKeys
import Derived.DataBytes
import Derived.Laws.StructEq
import Derived.Laws.AppendOwn
import Derived.Laws.MakeOwn
import Derived.Lib.AppendStr
set_option linter.unusedSimpArgs false
set_option linter.unusedVariables false
namespace Go.Proofs.Qxb6500787aGreat
open Go.RowKit Go.Blk
attribute [local go_sem ↓] execOp_load execOp_store execOp_alloc
attribute [local go_sem] Tryz.ld26 Tryz.st26 Tryz.ld27 Tryz.st27 Tryz.ld28 Tryz.st28 Tryz.ld3 Tryz.st3 Tryz.ld29 Tryz.st29 Tryz.ld44 Tryz.st44 Tryz.ld4 Tryz.st4 Tryz.ld50 Tryz.st50 Tryz.ld32 Tryz.st32 Tryz.ld49 Tryz.st49 Tryz.ld68 Tryz.st68 Tryz.ld9 Tryz.st9 Tryz.ld40 Tryz.st40 Tryz.ld138 Tryz.st138 Tryz.ld139 Tryz.st139 Tryz.ld146 Tryz.st146 Tryz.ld183 Tryz.st183 Tryz.ld184 Tryz.st184 Tryz.ld192 Tryz.st192 Tryz.ld195 Tryz.st195 Tryz.ld217 Tryz.st217 Tryz.ld159 Tryz.st159 Tryz.ld142 Tryz.st142 Tryz.ld2 Tryz.st2 Tryz.ld5 Tryz.st5 Tryz.ld12 Tryz.st12 Tryz.ld21 Tryz.st21 Tryz.ld22 Tryz.st22 Tryz.ld24 Tryz.st24 Tryz.ld58 Tryz.st58 Tryz.ld97 Tryz.st97 Tryz.ld101 Tryz.st101 Tryz.ld116 Tryz.st116 Tryz.ld121 Tryz.st121 Tryz.ld135 Tryz.st135 Tryz.ld136 Tryz.st136 Tryz.ld143 Tryz.st143 Tryz.ld148 Tryz.st148 Tryz.ld154 Tryz.st154 Tryz.ld173 Tryz.st173 Tryz.ld187 Tryz.st187 Tryz.ld222 Tryz.st222 Tryz.ld241 Tryz.st241 Tryz.ld248 Tryz.st248 Tryz.ld268 Tryz.st268 Tryz.ld272 Tryz.st272 Tryz.ld153 Tryz.st153 Tryz.ld255 Tryz.st255 Tryz.ld256 Tryz.st256 Tryz.ld129 Tryz.st129 Tryz.ld152 Tryz.st152 Tryz.ld31 Tryz.st31 Tryz.ld46 Tryz.st46 Tryz.ld52 Tryz.st52 Tryz.ld54 Tryz.st54 Tryz.ld60 Tryz.st60 Tryz.ld70 Tryz.st70 Tryz.ld74 Tryz.st74 Tryz.ld93 Tryz.st93 Tryz.ld141 Tryz.st141 Tryz.ld151 Tryz.st151 Tryz.ld170 Tryz.st170 Tryz.ld186 Tryz.st186 Tryz.ld189 Tryz.st189 Tryz.ld194 Tryz.st194 Tryz.ld197 Tryz.st197 Tryz.ld219 Tryz.st219 Tryz.ld224 Tryz.st224 Tryz.ld230 Tryz.st230 Tryz.ld235 Tryz.st235 Tryz.ld243 Tryz.st243 Tryz.ld247 Tryz.st247 Tryz.ld252 Tryz.st252 Tryz.ld258 Tryz.st258 Tryz.al153 Tryz.al255 Tryz.al256 Tryz.al129 Tryz.al152 Tryz.al31 Tryz.al46 Tryz.al52 Tryz.al54 Tryz.al60 Tryz.al70 Tryz.al74 Tryz.al93 Tryz.al141 Tryz.al151 Tryz.al170 Tryz.al186 Tryz.al189 Tryz.al194 Tryz.al197 Tryz.al219 Tryz.al224 Tryz.al230 Tryz.al235 Tryz.al243 Tryz.al247 Tryz.al252 Tryz.al258
attribute [local go_sem] Request.length_enc Request.ok_enc Request.all_get Request.all_set Request.kind_get Request.kind_set Request.blob_get Request.blob_set Request.items_get Request.items_set Request.pred_get Request.pred_set Request.slots_get Request.slots_set Trace.length_enc Trace.ok_enc Trace.all_get Trace.all_set Trace.op_get Trace.op_set Trace.calls_get Trace.calls_set Item.length_enc Item.ok_enc Item.all_get Item.all_set Item.del_get Item.del_set Item.pred_get Item.pred_set Item.args_get Item.args_set Reply.length_enc Reply.ok_enc Reply.all_get Reply.all_set Reply.code_get Reply.code_set Reply.kind_get Reply.kind_set Reply.index_get Reply.index_set Reply.yes_get Reply.yes_set Reply.preds_get Reply.preds_set Reply.rules_get Reply.rules_set Reply.arity_get Reply.arity_set Reply.rows_get Reply.rows_set Reply.fact_get Reply.fact_set Reply.fact_del_get Reply.fact_del_set Reply.fact_pred_get Reply.fact_pred_set Reply.fact_args_get Reply.fact_args_set GEntry.length_enc GEntry.ok_enc GEntry.all_get GEntry.all_set GEntry.seq_get GEntry.seq_set GEntry.kind_get GEntry.kind_set GEntry.code_get GEntry.code_set GOp.length_enc GOp.ok_enc GOp.all_get GOp.all_set GOp.kind_get GOp.kind_set GOp.raw_get GOp.raw_set Reader.length_enc Reader.ok_enc Reader.all_get Reader.all_set Reader.buf_get Reader.buf_set Reader.at__get Reader.at__set Slot.length_enc Slot.ok_enc Slot.all_get Slot.all_set Slot.bound_get Slot.bound_set Slot.name_get Slot.name_set Session.length_enc Session.ok_enc Session.all_get Session.all_set Session.svc_get Session.svc_set Session.buf_get Session.buf_set Session.closed_get Session.closed_set GProgram.length_enc GProgram.ok_enc GProgram.all_get GProgram.all_set GProgram.pool_get GProgram.pool_set GProgram.preds_get GProgram.preds_set GProgram.rules_get GProgram.rules_set GProgram.strata_get GProgram.strata_set PredInfo.length_enc PredInfo.ok_enc PredInfo.all_get PredInfo.all_set PredInfo.arity_get PredInfo.arity_set PredInfo.base_get PredInfo.base_set PredInfo.stratum_get PredInfo.stratum_set Change.length_enc Change.ok_enc Change.all_get Change.all_set Change.del_get Change.del_set Change.pred_get Change.pred_set Change.t_get Change.t_set Store.length_enc Store.ok_enc Store.all_get Store.all_set Store.names_get Store.names_set Store.arity_get Store.arity_set Store.rows_get Store.rows_set Src.length_enc Src.ok_enc Src.all_get Src.all_set Src.b_get Src.b_set Src.at__get Src.at__set Atom.length_enc Atom.ok_enc Atom.all_get Atom.all_set Atom.pred_get Atom.pred_set Atom.args_get Atom.args_set GRule.length_enc GRule.ok_enc GRule.all_get GRule.all_set GRule.head_get GRule.head_set GRule.body_get GRule.body_set GRule.head_pred_get GRule.head_pred_set GRule.head_args_get GRule.head_args_set Cert.length_enc Cert.ok_enc Cert.all_get Cert.all_set Cert.names_get Cert.names_set Cert.nodes_get Cert.nodes_set Fact.length_enc Fact.ok_enc Fact.all_get Fact.all_set Fact.pred_get Fact.pred_set Fact.t_get Fact.t_set Literal.length_enc Literal.ok_enc Literal.all_get Literal.all_set Literal.neg_get Literal.neg_set Literal.atom_get Literal.atom_set Literal.atom_pred_get Literal.atom_pred_set Literal.atom_args_get Literal.atom_args_set Engine.length_enc Engine.ok_enc Engine.all_get Engine.all_set Engine.prog_get Engine.prog_set Engine.st_get Engine.st_set SrcCertm.length_enc SrcCertm.ok_enc SrcCertm.all_get SrcCertm.all_set SrcCertm.b_get SrcCertm.b_set SrcCertm.at__get SrcCertm.at__set GNode.length_enc GNode.ok_enc GNode.all_get GNode.all_set GNode.rule_get GNode.rule_set GNode.pred_get GNode.pred_set GNode.vals_get GNode.vals_set GNode.refs_get GNode.refs_set Term.length_enc Term.ok_enc Term.all_get Term.all_set Term.var_get Term.var_set Term.n_get Term.n_set Env.length_enc Env.ok_enc Env.all_get Env.all_set Env.val_get Env.val_set Env.set_get Env.set_set
attribute [local go_sem] size_put size_ext blk_put free_put blk_alloc free_alloc blk_drew free_drew blk_ext free_ext lookOr_some putOr_some segAt_some cellAt_some storeIn_some put_put put_alloc_new length_arr ok_arr_u8 ok_arr_u32 ok_arr_u64 ok_arr_i64 ok_arr_sl cellsV_agg cellsV_int cellsV_bool cellsV_string cellsV_pointer cellsV_slice cellsV_sl ok_int ok_bool ok_string ok_pointer ok_slice ok_sl toList_arr seg_arr set_arr nth_splice nth_splice0 seg_splice seg_splice0 splice_splice splice_splice0 length_splice_if
attribute [local go_sem ↓] execOp_box
attribute [local go_sem] box_run nth_arr_u8 put_arr_u8 blk_drewN free_drewN put_drewN blk_raw free_raw
/-- A batch by numbers and by names, whatever its model is. -/
theorem bat_mod0 {t : InsS} (ht : InG t) (hv : PgV t.p) {F : List (List NRow)} (hA : Agm t.p t.N (basR t.p t.R) F) {G : List (List UInt8)} (hG : G.length ≤ 256) (hF : Fits G t.N) {L : List It} (hL : ∀ it ∈ L, ItF t.p t.p.preds.length it ∧ (pI t.p it.2.1.toNat).base = true ∧ (it.1 = false → ∀ x ∈ it.2.2, x ∈ G)) {code ix : Int} {R' : List (List Tup)} (hB : BatR t.p t.R (btG t.N L) code ix R') (e : (aftF F 0 L).1 = 0) : code = 16 ∨ (code = 0 ∧ Agm t.p (btN t.N L) (basR t.p R') (aftF F 0 L).2.2) := by
  obtain ⟨b1, b2, b3⟩ := bt_mod hG L t.N (basR t.p t.R) F 0 hA hF ht.nn (fun it hit => by
    have := hL it hit
    rw [basR_len]
    exact ⟨this.1, this.2.2⟩)
  rcases hB with ⟨h1, rfl, rfl, -⟩ | ⟨h1, P, hP, hI, rfl, rfl, rfl⟩
  · exact absurd (b1.trans e) h1
  obtain ⟨c1, c2⟩ := b3 h1
  obtain ⟨n1, n2⟩ := aftF_nd L F 0 (hA.nd (rinv_nd (basR_inv ht.inv))) e
  have hFl : (aftF F 0 L).2.2.length = t.p.preds.length := by rw [n2, hA.len, basR_len]
  cases eo : overB P with
  | true => left; rw [if_pos rfl]
  | false =>
    right
    rw [if_neg (by decide), if_neg (by decide)]
    refine ⟨rfl, ⟨c1.nb.nd, c1.nb.pre, fun q x hx => ?_⟩, by rw [hFl, basR_len], fun q => ?_, c1.ar⟩
    · exact hP.dom (fun r hr => (ht.pg.rul r hr).mono (fun y hy => hy.mono c1.nb.pre.length_le)) c1.nb.td q x (bas_mem hx).1
    · rw [bas_nm ht.pg.nob hP]
      by_cases hq : q < t.p.preds.length ∧ (pI t.p q).base = true
      · rw [if_pos hq]; exact c1.nm q
      · rw [if_neg hq]
        have hpr := aftF_pr (P := fun q _ => q < t.p.preds.length ∧ (pI t.p q).base = true) L F 0 (fun q r hr => by
          have hr' : r ∈ F.getD q [] := hr
          rw [hA.nm q] at hr'
          obtain ⟨x, hx, -⟩ := List.mem_map.1 hr'
          exact (bas_mem hx).2) (fun it hit _ => ⟨(hL it hit).1.lt, (hL it hit).2.1⟩) e
        cases hx : (aftF F 0 L).2.2.getD q [] with
        | nil => rfl
        | cons x l => exact absurd (hpr q x (by unfold memN; rw [hx]; exact List.mem_cons_self)) hq
/-- A new fact is inserted: capacity, or all is well. -/
theorem in_fresh {s s1 : Sv} {t : InsS} {m : MS} (ht : InG t) (hF : FstO t.p) (hA : AgT t m) {pr : Nat} {args : List (List UInt8)} (h64 : ∀ x ∈ args, x.length ≤ 64) (hcu : cuF m.p pr args.length = 0) (hnew : args ∉ m.F.getD pr []) {rep : Reply} (hi : inR s t pr args rep s1) : rep.code = 16 ∨ (rep.code = 0 ∧ ∃ t', s1.inst = some t' ∧ AgT t' ⟨true, m.p, addRN m.F pr args⟩) := by
  have hpt : ((pr : Int)).toNat = pr := Int.toNat_natCast _
  rcases hi with ⟨h1, -, -⟩ | ⟨h1, mc, t1, co, hm, hi⟩
  · rw [hA.p] at h1; exact absurd hcu h1
  have hst := mr_sim ht hF hm
  obtain ⟨g1, g2⟩ := hm.ing ht
  obtain ⟨m1, m2⟩ := mr_room ht hF hm
  obtain ⟨w1, w2⟩ := mr_code ht hA hF hm
  have hA1 := hA.sim hst g1
  by_cases hw : 256 < (wanF m.p.pool m.F [(false, (pr : Int), args)]).length
  · obtain ⟨rfl, rfl⟩ := w1 hw
    rcases hi with ⟨-, rfl, rfl⟩ | ⟨h2, -⟩
    · exact .inl rfl
    · exact absurd h2 (by decide)
  have hw' : (wanF m.p.pool m.F [(false, (pr : Int), args)]).length ≤ 256 := by omega
  have hmc := w2 hw'
  subst hmc
  obtain ⟨G, q1, q2, q3⟩ := m2 rfl
  rcases hi with ⟨h2, -⟩ | ⟨-, hi⟩
  · exact absurd rfl h2
  have hfi := (intF_fits q1 q2 (args := args) (fun x hx => q3 _ List.mem_cons_self rfl x hx)).1
  rcases hi with ⟨k3, -⟩ | ⟨-, code, ix, R', hB, hi⟩
  · exact absurd hfi k3
  have hex := intF_ex g1.nn g1.nl h64
  have haf : aftF m.F 0 [(false, (pr : Int), args)] = (0, -1, addRN m.F pr args) := by
    show (if (false : Bool) = false then (if args ∈ m.F.getD ((pr : Int)).toNat [] then _ else aftF (addRN m.F ((pr : Int)).toNat args) 1 []) else _) = _
    rw [if_pos rfl, hpt, if_neg hnew]
    rfl
  have hc1 : cuF t1.p pr args.length = 0 := by rw [g2]; exact h1
  have hu9 := bat_mod0 g1 hA1.v hA1.a q1 q2 (L := [(false, (pr : Int), args)]) (fun it hit => by
    rw [List.mem_singleton.1 hit]
    have hcu9 : cuF t1.p ((pr : Int)).toNat args.length = 0 := by rw [hpt]; exact hc1
    exact ⟨itf_of g1.pg.pok (by show (0 : Int) ≤ (pr : Int); omega) h64 hcu9, (cuF_zero g1.pg.pok hcu9).2.1, fun _ x hx => q3 _ List.mem_cons_self rfl x hx⟩) hB (by rw [haf])
  rcases hu9 with rfl | ⟨rfl, c4⟩
  · rcases hi with ⟨-, rfl, rfl⟩ | ⟨k4, -⟩
    · exact .inl rfl
    · exact absurd k4 (by decide)
  · rcases hi with ⟨k4, -⟩ | ⟨-, rfl, rfl⟩
    · exact absurd rfl k4
    · refine .inr ⟨rfl, _, rfl, ?_⟩
      obtain ⟨e1, e2, e3⟩ := setsS_p [inC t1 pr args] ((t1.tab (intF t1.N args).2.2).rel R')
      have e1' : (setS ((t1.tab (intF t1.N args).2.2).rel R') (inC t1 pr args)).p = t1.p := e1
      have e2' : (setS ((t1.tab (intF t1.N args).2.2).rel R') (inC t1 pr args)).N = (intF t1.N args).2.2 := e2
      have e3' : (setS ((t1.tab (intF t1.N args).2.2).rel R') (inC t1 pr args)).R = R' := e3
      refine ⟨rfl, e1'.trans hA1.p, by rw [e1']; exact hA1.v, ?_⟩
      rw [e1', e2', e3']
      rw [haf] at c4
      exact c4
/-- A fresh instance holds no facts. -/
theorem new_agt {p : PP} (hp : PgV p) {P : List (List Tup)} (hF : Fst p P) : AgT (newS p P p.pool.length) ⟨true, p, List.replicate p.preds.length []⟩ := by
  have hemp : ∀ q, rowsAt (basR p P) q = [] := fun q => by
    cases hx : rowsAt (basR p P) q with
    | nil => rfl
    | cons x l =>
      have h9 := bas_mem (p := p) (R := P) (q := q) (x := x) (by rw [hx]; exact List.mem_cons_self)
      rw [fst_base hp hF h9.2.2] at h9
      cases h9.1
  refine ⟨rfl, rfl, hp, ⟨hp.g.pool.1, List.prefix_refl _, fun q t ht => ?_⟩, ?_, fun q => ?_, ar4 hp.g.pok⟩
  · have ht' : t ∈ rowsAt (basR p P) q := ht
    rw [hemp q] at ht'; cases ht'
  · show (List.replicate p.preds.length ([] : List NRow)).length = (basR p P).length
    rw [basR_len, List.length_replicate]
  · show (List.replicate p.preds.length ([] : List NRow)).getD q [] = nmB p p.pool (basR p P) q
    rw [fac_empty]
    unfold nmB
    rw [hemp q]; rfl
/-- The image in force is the accepted program's. -/
def ImgI (s : Sv) : Prop := ∀ t, s.inst = some t → (decP s.img).1 = 0 ∧ VerR (decP s.img).2 0 t.p ∧ FstO t.p ∧ s.img.length ≤ 65532
theorem imgI_zero : ImgI Sv.zero := fun t h => by cases h
theorem blob_len {raw : List UInt8} (hr : raw.length ≤ 65536) (h0 : (decF raw).1 = 0) (hk : (decF raw).2.kind = 1) : (decF raw).2.blob.length ≤ 65532 := by
  obtain ⟨k, pay, hV, hx⟩ := decF_inv (xs := raw) (q := (decF raw).2) (by rw [← h0]) hr
  have hk1 : k = 1 := by have := hV.1; omega
  have hb := (hV.2.2.2.2.1 (.inl hk1)).1
  rw [← hb]
  have h2 : raw.length = 4 + pay.length := by rw [hx, List.length_append]; rfl
  omega
theorem svR.imgk {s s' : Sv} {raw : List UInt8} {q : PRep} (h : svR s raw q s') (hk : (decF raw).1 ≠ 0 ∨ (decF raw).2.kind ≠ 1) : s'.img = s.img := by
  obtain ⟨s1, h, rfl⟩ := h
  show s1.img = s.img
  rcases h with ⟨-, -, rfl⟩ | ⟨h0, h⟩
  · rfl
  rcases h with ⟨h1, -⟩ | ⟨-, -, -, rfl⟩ | ⟨t, ht, h⟩
  · rcases hk with hk | hk
    · exact absurd h0 hk
    · exact absurd h1 hk
  · rfl
  · rcases h with ⟨-, rep, hP, -⟩ | ⟨-, rep, hP, -⟩ | ⟨-, rep, hP, -⟩ | ⟨-, rep, hP, -⟩ | ⟨-, -, e⟩ | ⟨-, -, e⟩
    · rcases hP with ⟨-, -, rfl⟩ | ⟨-, mc, t1, co, -, ⟨-, -, rfl⟩ | ⟨-, ⟨-, -, rfl⟩ | ⟨-, code, ix, R', -, ⟨-, -, rfl⟩ | ⟨-, -, rfl⟩⟩⟩⟩ <;> rfl
    · rcases hP with ⟨-, -, rfl⟩ | ⟨-, code, ix, R', -, ⟨-, -, rfl⟩ | ⟨-, -, rfl⟩⟩ <;> rfl
    · rcases hP with ⟨c, i, -, -, rfl⟩ | ⟨-, mc, t1, co, -, ⟨-, -, rfl⟩ | ⟨-, ⟨-, -, rfl⟩ | ⟨-, code, ix, R', -, ⟨-, -, rfl⟩ | ⟨-, -, rfl⟩⟩⟩⟩ <;> rfl
    · have e : s1 = (qyF s.clr t (itP (decF raw).2) (itA (decF raw).2)).2 := congrArg Prod.snd hP
      rw [e]; unfold qyF
      split <;> rfl
    · rw [e]; split <;> rfl
    · rw [e]; rfl
theorem MvR.keep {m m' : MS} {raw out : List UInt8} (h : MvR m raw out m') (hk : (decF raw).1 ≠ 0 ∨ (decF raw).2.kind ≠ 1) : m'.p = m.p ∧ (m'.ld = true → m.ld = true) := by
  rcases h with ⟨-, -, rfl⟩ | ⟨h0, ⟨h1, -⟩ | ⟨-, -, -, rfl⟩ | ⟨-, hl, h⟩⟩
  · exact ⟨rfl, fun e => e⟩
  · rcases hk with hk | hk
    · exact absurd h0 hk
    · exact absurd h1 hk
  · exact ⟨rfl, fun e => e⟩
  · refine ⟨?_, fun _ => hl⟩
    rcases h with ⟨-, h⟩ | ⟨-, -, rfl⟩ | ⟨-, -, rfl⟩ | ⟨-, -, rfl⟩
    · rcases h with ⟨-, -, -, -, rfl⟩ | ⟨-, ⟨-, -, rfl⟩ | ⟨-, ⟨-, -, rfl⟩ | ⟨-, F1, T1, -, ⟨-, -, rfl⟩ | ⟨-, -, rfl⟩⟩⟩⟩ <;> rfl
    · rfl
    · rfl
    · rfl
theorem imgI_step {s s' : Sv} {m m' : MS} (hA : AgS s m) (hA' : AgS s' m') {raw out : List UInt8} (hr : raw.length ≤ 65536) {q : PRep} (hv : svR s raw q s') (hm : MvR m raw out m') (h : ImgI s) : ImgI s' := by
  by_cases hk : (decF raw).1 ≠ 0 ∨ (decF raw).2.kind ≠ 1
  · have e1 := hv.imgk hk
    obtain ⟨e2, e3⟩ := hm.keep hk
    intro t' ht'
    rcases hA' with ⟨h1, -⟩ | ⟨u', hu', a'⟩
    · rw [h1] at ht'; cases ht'
    rw [hu'] at ht'
    cases ht'
    rcases hA with ⟨h1, h2⟩ | ⟨t, ht, a⟩
    · have := e3 a'.ld; rw [h2] at this; cases this
    have hp : t'.p = t.p := by rw [a'.p, a.p, e2]
    rw [e1, hp]
    exact h t ht
  · have h0 : (decF raw).1 = 0 := Classical.byContradiction fun e => hk (.inl e)
    have h1 : (decF raw).2.kind = 1 := Classical.byContradiction fun e => hk (.inr e)
    obtain ⟨s1, hv, rfl⟩ := hv
    intro t' ht'
    have ht1 : s1.inst = some t' := ht'
    show (decP s1.img).1 = 0 ∧ VerR (decP s1.img).2 0 t'.p ∧ FstO t'.p ∧ s1.img.length ≤ 65532
    rcases hv with ⟨e, -⟩ | ⟨-, hv⟩
    · exact absurd h0 e
    rcases hv with ⟨-, rep, hP, -⟩ | ⟨e, -⟩ | ⟨t, -, hv⟩
    · rcases hP with ⟨-, -, rfl⟩ | ⟨d0, vc, p', v1, ⟨-, -, rfl⟩ | ⟨rfl, P, hF, ⟨-, -, rfl⟩ | ⟨ho, -, rfl⟩⟩⟩
      · exact h t' ht1
      · exact h t' ht1
      · exact h t' ht1
      · obtain rfl : t' = newS p' P p'.pool.length := (Option.some.inj ht1).symm
        exact ⟨d0, v1, ⟨P, hF, ho⟩, blob_len hr h0 h1⟩
    · exact absurd h1 e
    · exfalso
      rcases hv with ⟨e, -⟩ | ⟨e, -⟩ | ⟨e, -⟩ | ⟨e, -⟩ | ⟨e, -⟩ | ⟨e, -⟩ <;> omega
/-- The image is loaded into a fresh service. -/
theorem fresh_load {w w' : Sv} {raw : List UInt8} {q : PRep} (h0 : (decF raw).1 = 0) (hk : (decF raw).2.kind = 1) (hv : svR w raw q w') {p : PP} (d0 : (decP (decF raw).2.blob).1 = 0) (v0 : VerR (decP (decF raw).2.blob).2 0 p) (hF : FstO p) : q.code = 0 ∧ ∃ t, w'.inst = some t ∧ AgT t ⟨true, p, List.replicate p.preds.length []⟩ := by
  obtain ⟨P, hP0, ho⟩ := hF
  obtain ⟨s1, hv, rfl⟩ := hv
  rcases hv with ⟨e, -⟩ | ⟨-, hv⟩
  · exact absurd h0 e
  rcases hv with ⟨-, rep, hP, rfl⟩ | ⟨e, -⟩ | ⟨t, -, hv⟩
  · rcases hP with ⟨e, -⟩ | ⟨-, vc, p', v1, hP⟩
    · exact absurd d0 e
    obtain ⟨e1, e2⟩ := v0.det v1
    subst e1
    have e2 := e2 rfl
    subst e2
    rcases hP with ⟨e, -⟩ | ⟨-, P', hF', hP⟩
    · exact absurd rfl e
    have := hP0.det hF'
    subst this
    rcases hP with ⟨e, -⟩ | ⟨-, rfl, rfl⟩
    · rw [ho] at e; cases e
    exact ⟨rfl, _, rfl, new_agt (verR_pgV (decP_ok d0) v0) hP0⟩
  · exact absurd hk e
  · exfalso
    rcases hv with ⟨e, -⟩ | ⟨e, -⟩ | ⟨e, -⟩ | ⟨e, -⟩ | ⟨e, -⟩ | ⟨e, -⟩ <;> omega
/-- A new fact is sent to a service. -/
theorem fresh_ins {w w' : Sv} {M : Int} (hI : SvI M w) (hF : SvF w) {t : InsS} {m : MS} (ht : w.inst = some t) (hA : AgT t m) {raw : List UInt8} {q : PRep} (h0 : (decF raw).1 = 0) (hk : (decF raw).2.kind = 2) {pr : Nat} {args : List (List UInt8)} (hit : (decF raw).2.items = [(false, (pr : Int), args)]) (h64 : ∀ x ∈ args, x.length ≤ 64) (hcu : cuF m.p pr args.length = 0) (hnew : args ∉ m.F.getD pr []) (hv : svR w raw q w') : q.code = 16 ∨ (q.code = 0 ∧ ∃ t', w'.inst = some t' ∧ AgT t' ⟨true, m.p, addRN m.F pr args⟩) := by
  obtain ⟨s1, hv, rfl⟩ := hv
  rcases hv with ⟨e, -⟩ | ⟨-, hv⟩
  · exact absurd h0 e
  rcases hv with ⟨e, -⟩ | ⟨-, e, -⟩ | ⟨t', ht', hv⟩
  · omega
  · have e' : w.inst = none := e
    rw [e'] at ht; cases ht
  have htt : w.inst = some t' := ht'
  rw [ht] at htt
  cases htt
  have hip : itP (decF raw).2 = pr := by unfold itP; rw [hit]; exact Int.toNat_natCast _
  have hia : itA (decF raw).2 = args := by unfold itA; rw [hit]; rfl
  rcases hv with ⟨-, rep, hP, rfl⟩ | ⟨e, -⟩ | ⟨e, -⟩ | ⟨e, -⟩ | ⟨e, -⟩ | ⟨e, -⟩
  · rw [hip, hia] at hP
    rcases in_fresh (hI.ins t ht) (hF t ht) hA h64 hcu hnew hP with e | ⟨e1, t', e2, e3⟩
    · exact .inl e
    · exact .inr ⟨e1, t', e2, e3⟩
  all_goals exfalso; omega
/-- An instance's model, told by names, is the least model over its facts. -/
theorem agt_lm {t : InsS} {m : MS} (h : AgT t m) (ht : InG t) (q : Nat) (x : NRow) : (∃ y, memI t.R q y ∧ x = nmsT t.N y (arP t.p q)) ↔ LM (gN t.p.pool) t.p (memN m.F) t.p.strata.toNat q x := by
  have hp := h.v
  have h4 := ar4 hp.g.pok
  have hb := basR_inv ht.inv
  obtain ⟨s1, s2⟩ := ht.der.lm (D := InT t.N.length) (B := memI (basR t.p t.R)) (fun r hr => (hp.g.rul r hr).mono (fun y hy => hy.mono ht.pre.length_le)) (fun r hr => (hp.g.pok.rl r hr).2) hp.neg hp.top hb.2 ht.dom ⟨fun q x hx => LM.up hx, fun q x hx => hx⟩ (Nat.zero_le _)
  have hnm := lm_nm ht.nn.1 ht.pre hp.g.rul h4 (B := memI (basR t.p t.R)) (fun q t' ht' => ht.dom q t' ht') (B' := memN m.F) h.a.tells t.p.strata.toNat q
  constructor
  · rintro ⟨y, hy, rfl⟩
    exact hnm.1 y (s1 q y hy)
  · intro hx
    obtain ⟨y, h1, h2⟩ := hnm.2 x hx
    exact ⟨y, s2 ht.cap q y h1, h2⟩
theorem srt_eq {n : Nat} {A B : List NRow} (hA : ∀ r ∈ A, r.length = n) (hB : ∀ r ∈ B, r.length = n) (nA : A.Nodup) (nB : B.Nodup) (hm : ∀ r, r ∈ A ↔ r ∈ B) : srtR A = srtR B := (srt_same hA hB nA nB hm).trans (srt_same hB hB nB nB (fun _ => Iff.rfl)).symm
/-- Two instances with the same program and the same facts list the same. -/
theorem fresh_list {t u : InsS} {m m' : MS} (h : AgT t m) (ht : InG t) (h' : AgT u m') (hu : InG u) (hp : m'.p = m.p) (hF : ∀ q x, memN m'.F q x ↔ memN m.F q x) (pr : Nat) : lsQ t pr = lsQ u pr := by
  have htu : u.p = t.p := by rw [h'.p, hp, h.p]
  have hB : memN m'.F = memN m.F := by funext q x; exact propext (hF q x)
  have h4 := ar4 ht.pg.pok pr
  have nbt : NB t.p t.N t.R := ⟨ht.nn.1, ht.pre, ht.rd⟩
  have nbu : NB u.p u.N u.R := ⟨hu.nn.1, hu.pre, hu.rd⟩
  unfold lsQ ptQ
  rw [htu]
  congr 1
  have hl : (frS (arP t.p pr)).length = arP t.p pr := frS_len _
  by_cases hc : crF t.p pr (frS (arP t.p pr)).length ≠ 0
  · rw [if_pos hc, if_pos hc]
  rw [if_neg hc, if_neg hc]
  have mem : ∀ {t : InsS} (nb : NB t.p t.N t.R) (h4 : arP t.p pr ≤ 4) (r : NRow), r ∈ (ptRows t pr (frS (arP t.p pr))).map (fun x => nmsT t.N x (frS (arP t.p pr)).length) ↔ (∃ y, memI t.R pr y ∧ r = nmsT t.N y (arP t.p pr)) ∧ fitB (frS (arP t.p pr)) r = true := fun {t} nb h4 r => by
    have hl : (frS (arP t.p pr)).length = arP t.p pr := frS_len _
    rw [List.mem_map]
    constructor
    · rintro ⟨x, hx, rfl⟩
      obtain ⟨x1, x2⟩ := List.mem_filter.1 hx
      exact ⟨⟨x, x1, by rw [hl]⟩, (pt_fit nb hl h4 x1).1 (of_decide_eq_true x2)⟩
    · rintro ⟨⟨y, y1, e⟩, hf⟩
      rw [← hl] at e
      rw [e] at hf
      exact ⟨y, List.mem_filter.2 ⟨y1, decide_eq_true ((pt_fit nb hl h4 y1).2 hf)⟩, e.symm⟩
  have nd : ∀ {t : InsS} (ht : InG t) (nb : NB t.p t.N t.R) (h4 : arP t.p pr ≤ 4), ((ptRows t pr (frS (arP t.p pr))).map (fun x => nmsT t.N x (frS (arP t.p pr)).length)).Nodup := fun {t} ht nb h4 => by
    have hl : (frS (arP t.p pr)).length = arP t.p pr := frS_len _
    refine map_nd (fun x hx y hy e => ?_) ((rinv_nd ht.inv pr).filter _)
    rw [hl] at e
    exact nm_inj nb h4 (nb.td pr x (List.mem_filter.1 hx).1) (nb.td pr y (List.mem_filter.1 hy).1) e
  have e1 := mem (t := t) nbt h4
  have e2 := mem (t := u) nbu (by rw [htu]; exact h4)
  have n1 := nd ht nbt h4
  have n2 := nd hu nbu (by rw [htu]; exact h4)
  rw [htu] at e2 n2
  have lm1 := agt_lm h ht pr
  have lm2 := agt_lm h' hu pr
  rw [hB, htu] at lm2
  have hs : srtR ((ptRows t pr (frS (arP t.p pr))).map (fun x => nmsT t.N x (frS (arP t.p pr)).length)) = srtR ((ptRows u pr (frS (arP t.p pr))).map (fun x => nmsT u.N x (frS (arP t.p pr)).length)) := by
    refine srt_eq (n := (frS (arP t.p pr)).length) (fun r hr => ?_) (fun r hr => ?_) n1 n2 (fun r => ?_)
    · obtain ⟨x, -, rfl⟩ := List.mem_map.1 hr; exact nmsT_len _ _ _
    · obtain ⟨x, -, rfl⟩ := List.mem_map.1 hr; exact nmsT_len _ _ _
    · rw [e1 r, e2 r, lm1 r, lm2 r]
  rw [hs]
theorem const_same {pool : List (List UInt8)} {F F' : List (List NRow)} (h : ∀ q x, memN F' q x ↔ memN F q x) : (constF pool F').length = (constF pool F).length := by
  have key : ∀ {F F' : List (List NRow)}, (∀ q x, memN F' q x → memN F q x) → ∀ x ∈ constF pool F', x ∈ constF pool F := fun {F F'} h x hx => by
    rcases constF_mem.1 hx with h1 | ⟨L, hL, r, hr, hxr⟩
    · exact constF_mem.2 (.inl h1)
    · obtain ⟨q, hq⟩ := List.mem_iff_getElem?.1 hL
      have h2 : memN F' q r := by unfold memN; rw [List.getD_eq_getElem?_getD, hq]; exact hr
      have h3 : r ∈ F.getD q [] := h q r h2
      rw [List.getD_eq_getElem?_getD] at h3
      cases hq' : F[q]? with
      | none => rw [hq'] at h3; cases h3
      | some L' => rw [hq'] at h3; exact constF_mem.2 (.inr ⟨L', List.mem_of_getElem? hq', r, h3, hxr⟩)
  exact Nat.le_antisymm (nodup_subG _ _ (constF_nd _ _) (key fun q x => (h q x).1)) (nodup_subG _ _ (constF_nd _ _) (key fun q x => (h q x).2))
theorem fresh_end {s w : Sv} {M M' : Int} {t u : InsS} {m m' : MS} (hI : SvI M s) (hIw : SvI M' w) (hs : s.inst = some t) (hw : w.inst = some u) (h : AgT t m) (h' : AgT u m') (hp : m'.p = m.p) (hF : ∀ q x, memN m'.F q x ↔ memN m.F q x) : inUse s = inUse w ∧ lsF s = lsF w := by
  have ht := hI.ins t hs
  have hu := hIw.ins u hw
  have htu : u.p = t.p := by rw [h'.p, hp, h.p]
  constructor
  · unfold inUse
    rw [hs, hw]
    show t.live = u.live
    rw [live_const ht h.a, live_const hu h'.a, htu, const_same hF]
  · unfold lsF
    rw [hs, hw]
    dsimp only
    rw [htu]
    exact List.map_congr_left fun p _ => fresh_list h ht h' hu hp hF p
/-- A load, encoded, decodes. -/
theorem dec_load {xs : List UInt8} (hl : xs.length ≤ 65532) : decF ([1, UInt8.ofNat 1, UInt8.ofNat (xs.length / 256), UInt8.ofNat xs.length] ++ xs) = (0, ⟨1, xs, [], 0, []⟩) := by
  have e : (UInt8.ofNat (xs.length / 256)).toNat * 256 + (UInt8.ofNat xs.length).toNat = xs.length := by
    rw [UInt8.toNat_ofNat', UInt8.toNat_ofNat']; omega
  have eh : hdrF (1 :: UInt8.ofNat 1 :: UInt8.ofNat (xs.length / 256) :: UInt8.ofNat xs.length :: xs) = (0, 1) := by
    rw [hdrF_cons, if_neg (by decide), if_neg (by decide), if_neg (by rw [e]; exact fun h => h rfl)]
    rfl
  show (if (hdrF (1 :: UInt8.ofNat 1 :: UInt8.ofNat (xs.length / 256) :: UInt8.ofNat xs.length :: xs)).1 ≠ 0 then _ else finF (bodyF (hdrF (1 :: UInt8.ofNat 1 :: UInt8.ofNat (xs.length / 256) :: UInt8.ofNat xs.length :: xs)).2 xs)) = _
  rw [eh, if_neg (fun h => h rfl)]
  show finF (bodyF 1 xs) = _
  have eb : bodyF 1 xs = (0, ⟨1, xs, [], 0, []⟩, []) := by unfold bodyF; rw [if_pos (Or.inl rfl)]
  rw [eb]
  unfold finF
  rw [if_neg (fun h => h rfl), if_neg (fun h => h rfl)]
/-- An insertion, encoded, decodes. -/
theorem dec_ins {pr : Nat} {args : List (List UInt8)} (hp : pr ≤ 255) (h4 : args.length ≤ 4) (h64 : ∀ x ∈ args, x.length ≤ 64) : decF ([1, UInt8.ofNat 2, UInt8.ofNat ((encF pr args).length / 256), UInt8.ofNat (encF pr args).length] ++ encF pr args) = (0, ⟨2, [], [(false, (pr : Int), args)], 0, []⟩) := by
  have hlen : (encF pr args).length ≤ 262 := by
    have := flat_len args h64
    unfold encF
    simp only [List.length_cons]
    omega
  have hfa : factF (encF pr args) = (0, (pr : Int), args, []) := by
    have eg := goN_enc args [] [] h64
    rw [List.append_nil, List.nil_append] at eg
    have ek : (UInt8.ofNat args.length).toNat = args.length := by rw [UInt8.toNat_ofNat']; omega
    have ep : (UInt8.ofNat pr).toNat = pr := by rw [UInt8.toNat_ofNat']; omega
    unfold encF
    rw [factF_cons, ek, if_neg (by omega), eg, if_pos rfl, ep]
  obtain ⟨xs, exs⟩ : ∃ xs, xs = encF pr args := ⟨_, rfl⟩
  rw [← exs] at hlen hfa ⊢
  have e : (UInt8.ofNat (xs.length / 256)).toNat * 256 + (UInt8.ofNat xs.length).toNat = xs.length := by
    rw [UInt8.toNat_ofNat', UInt8.toNat_ofNat']; omega
  have eh : hdrF (1 :: UInt8.ofNat 2 :: UInt8.ofNat (xs.length / 256) :: UInt8.ofNat xs.length :: xs) = (0, 2) := by
    rw [hdrF_cons, if_neg (by decide), if_neg (by decide), if_neg (by rw [e]; exact fun h => h rfl)]
    rfl
  show (if (hdrF (1 :: UInt8.ofNat 2 :: UInt8.ofNat (xs.length / 256) :: UInt8.ofNat xs.length :: xs)).1 ≠ 0 then _ else finF (bodyF (hdrF (1 :: UInt8.ofNat 2 :: UInt8.ofNat (xs.length / 256) :: UInt8.ofNat xs.length :: xs)).2 xs)) = _
  rw [eh, if_neg (fun h => h rfl)]
  show finF (bodyF 2 xs) = _
  have eb : bodyF 2 xs = (0, ⟨2, [], [(false, (pr : Int), args)], 0, []⟩, []) := by
    unfold bodyF
    rw [if_neg (show ¬ ((2 : Int) = 1 ∨ (2 : Int) = 7) by decide), if_pos (show (2 : Int) = 2 ∨ (2 : Int) = 3 ∨ (2 : Int) = 5 from Or.inl rfl), hfa]
    rfl
  rw [eb]
  unfold finF
  rw [if_neg (fun h => h rfl), if_neg (fun h => h rfl)]
end Go.Proofs.Qxb6500787aGreat
