import Derived.Test.Qxb6500787aGreatPd
import Derived.Test.Qxb6500787aGreatPb
import Derived.Test.Qxb6500787aGreatPc
import Derived.Test.Qxb6500787aGreatNc

import Derived.StillTailTactics
import Derived.Deep.QuietTactic
import Derived.BigQuiet
import Derived.Deep.RegionHeld
import Derived.Deep.CutRange
import Derived.Laws.ResultCell
import Derived.Laws.Rows
import Derived.DeepKeys
import Derived.DataBytes
import Derived.Laws.StructEq
import Derived.Laws.AppendOwn
import Derived.Laws.MakeOwn
import Derived.Lib.AppendStr
set_option linter.unusedSimpArgs false
set_option linter.unusedVariables false
namespace Go.Proofs.Qxb6500787aGreat
open Go.RowKit Go.Blk
attribute [local go_sem ↓] execOp_load execOp_store execOp_alloc
attribute [local go_sem] Tryz.ld26 Tryz.st26 Tryz.ld27 Tryz.st27 Tryz.ld28 Tryz.st28 Tryz.ld3 Tryz.st3 Tryz.ld29 Tryz.st29 Tryz.ld44 Tryz.st44 Tryz.ld4 Tryz.st4 Tryz.ld50 Tryz.st50 Tryz.ld32 Tryz.st32 Tryz.ld49 Tryz.st49 Tryz.ld68 Tryz.st68 Tryz.ld9 Tryz.st9 Tryz.ld40 Tryz.st40 Tryz.ld138 Tryz.st138 Tryz.ld139 Tryz.st139 Tryz.ld146 Tryz.st146 Tryz.ld183 Tryz.st183 Tryz.ld184 Tryz.st184 Tryz.ld192 Tryz.st192 Tryz.ld195 Tryz.st195 Tryz.ld217 Tryz.st217 Tryz.ld159 Tryz.st159 Tryz.ld142 Tryz.st142 Tryz.ld2 Tryz.st2 Tryz.ld5 Tryz.st5 Tryz.ld12 Tryz.st12 Tryz.ld21 Tryz.st21 Tryz.ld22 Tryz.st22 Tryz.ld24 Tryz.st24 Tryz.ld58 Tryz.st58 Tryz.ld97 Tryz.st97 Tryz.ld101 Tryz.st101 Tryz.ld116 Tryz.st116 Tryz.ld121 Tryz.st121 Tryz.ld135 Tryz.st135 Tryz.ld136 Tryz.st136 Tryz.ld143 Tryz.st143 Tryz.ld148 Tryz.st148 Tryz.ld154 Tryz.st154 Tryz.ld173 Tryz.st173 Tryz.ld187 Tryz.st187 Tryz.ld222 Tryz.st222 Tryz.ld241 Tryz.st241 Tryz.ld248 Tryz.st248 Tryz.ld268 Tryz.st268 Tryz.ld272 Tryz.st272 Tryz.ld153 Tryz.st153 Tryz.ld255 Tryz.st255 Tryz.ld256 Tryz.st256 Tryz.ld129 Tryz.st129 Tryz.ld152 Tryz.st152 Tryz.ld31 Tryz.st31 Tryz.ld46 Tryz.st46 Tryz.ld52 Tryz.st52 Tryz.ld54 Tryz.st54 Tryz.ld60 Tryz.st60 Tryz.ld70 Tryz.st70 Tryz.ld74 Tryz.st74 Tryz.ld93 Tryz.st93 Tryz.ld141 Tryz.st141 Tryz.ld151 Tryz.st151 Tryz.ld170 Tryz.st170 Tryz.ld186 Tryz.st186 Tryz.ld189 Tryz.st189 Tryz.ld194 Tryz.st194 Tryz.ld197 Tryz.st197 Tryz.ld219 Tryz.st219 Tryz.ld224 Tryz.st224 Tryz.ld230 Tryz.st230 Tryz.ld235 Tryz.st235 Tryz.ld243 Tryz.st243 Tryz.ld247 Tryz.st247 Tryz.ld252 Tryz.st252 Tryz.ld258 Tryz.st258 Tryz.al153 Tryz.al255 Tryz.al256 Tryz.al129 Tryz.al152 Tryz.al31 Tryz.al46 Tryz.al52 Tryz.al54 Tryz.al60 Tryz.al70 Tryz.al74 Tryz.al93 Tryz.al141 Tryz.al151 Tryz.al170 Tryz.al186 Tryz.al189 Tryz.al194 Tryz.al197 Tryz.al219 Tryz.al224 Tryz.al230 Tryz.al235 Tryz.al243 Tryz.al247 Tryz.al252 Tryz.al258
attribute [local go_sem] Request.length_enc Request.ok_enc Request.all_get Request.all_set Request.kind_get Request.kind_set Request.blob_get Request.blob_set Request.items_get Request.items_set Request.pred_get Request.pred_set Request.slots_get Request.slots_set Trace.length_enc Trace.ok_enc Trace.all_get Trace.all_set Trace.op_get Trace.op_set Trace.calls_get Trace.calls_set Item.length_enc Item.ok_enc Item.all_get Item.all_set Item.del_get Item.del_set Item.pred_get Item.pred_set Item.args_get Item.args_set Reply.length_enc Reply.ok_enc Reply.all_get Reply.all_set Reply.code_get Reply.code_set Reply.kind_get Reply.kind_set Reply.index_get Reply.index_set Reply.yes_get Reply.yes_set Reply.preds_get Reply.preds_set Reply.rules_get Reply.rules_set Reply.arity_get Reply.arity_set Reply.rows_get Reply.rows_set Reply.fact_get Reply.fact_set Reply.fact_del_get Reply.fact_del_set Reply.fact_pred_get Reply.fact_pred_set Reply.fact_args_get Reply.fact_args_set GEntry.length_enc GEntry.ok_enc GEntry.all_get GEntry.all_set GEntry.seq_get GEntry.seq_set GEntry.kind_get GEntry.kind_set GEntry.code_get GEntry.code_set GOp.length_enc GOp.ok_enc GOp.all_get GOp.all_set GOp.kind_get GOp.kind_set GOp.raw_get GOp.raw_set Reader.length_enc Reader.ok_enc Reader.all_get Reader.all_set Reader.buf_get Reader.buf_set Reader.at__get Reader.at__set Slot.length_enc Slot.ok_enc Slot.all_get Slot.all_set Slot.bound_get Slot.bound_set Slot.name_get Slot.name_set Session.length_enc Session.ok_enc Session.all_get Session.all_set Session.svc_get Session.svc_set Session.buf_get Session.buf_set Session.closed_get Session.closed_set GProgram.length_enc GProgram.ok_enc GProgram.all_get GProgram.all_set GProgram.pool_get GProgram.pool_set GProgram.preds_get GProgram.preds_set GProgram.rules_get GProgram.rules_set GProgram.strata_get GProgram.strata_set PredInfo.length_enc PredInfo.ok_enc PredInfo.all_get PredInfo.all_set PredInfo.arity_get PredInfo.arity_set PredInfo.base_get PredInfo.base_set PredInfo.stratum_get PredInfo.stratum_set Change.length_enc Change.ok_enc Change.all_get Change.all_set Change.del_get Change.del_set Change.pred_get Change.pred_set Change.t_get Change.t_set Store.length_enc Store.ok_enc Store.all_get Store.all_set Store.names_get Store.names_set Store.arity_get Store.arity_set Store.rows_get Store.rows_set Src.length_enc Src.ok_enc Src.all_get Src.all_set Src.b_get Src.b_set Src.at__get Src.at__set Atom.length_enc Atom.ok_enc Atom.all_get Atom.all_set Atom.pred_get Atom.pred_set Atom.args_get Atom.args_set GRule.length_enc GRule.ok_enc GRule.all_get GRule.all_set GRule.head_get GRule.head_set GRule.body_get GRule.body_set GRule.head_pred_get GRule.head_pred_set GRule.head_args_get GRule.head_args_set Cert.length_enc Cert.ok_enc Cert.all_get Cert.all_set Cert.names_get Cert.names_set Cert.nodes_get Cert.nodes_set Fact.length_enc Fact.ok_enc Fact.all_get Fact.all_set Fact.pred_get Fact.pred_set Fact.t_get Fact.t_set Literal.length_enc Literal.ok_enc Literal.all_get Literal.all_set Literal.neg_get Literal.neg_set Literal.atom_get Literal.atom_set Literal.atom_pred_get Literal.atom_pred_set Literal.atom_args_get Literal.atom_args_set Engine.length_enc Engine.ok_enc Engine.all_get Engine.all_set Engine.prog_get Engine.prog_set Engine.st_get Engine.st_set SrcCertm.length_enc SrcCertm.ok_enc SrcCertm.all_get SrcCertm.all_set SrcCertm.b_get SrcCertm.b_set SrcCertm.at__get SrcCertm.at__set GNode.length_enc GNode.ok_enc GNode.all_get GNode.all_set GNode.rule_get GNode.rule_set GNode.pred_get GNode.pred_set GNode.vals_get GNode.vals_set GNode.refs_get GNode.refs_set Term.length_enc Term.ok_enc Term.all_get Term.all_set Term.var_get Term.var_set Term.n_get Term.n_set Env.length_enc Env.ok_enc Env.all_get Env.all_set Env.val_get Env.val_set Env.set_get Env.set_set
attribute [local go_sem] size_put size_ext blk_put free_put blk_alloc free_alloc blk_drew free_drew blk_ext free_ext lookOr_some putOr_some segAt_some cellAt_some storeIn_some put_put put_alloc_new length_arr ok_arr_u8 ok_arr_u32 ok_arr_u64 ok_arr_i64 ok_arr_sl cellsV_agg cellsV_int cellsV_bool cellsV_string cellsV_pointer cellsV_slice cellsV_sl ok_int ok_bool ok_string ok_pointer ok_slice ok_sl toList_arr seg_arr set_arr nth_splice nth_splice0 seg_splice seg_splice0 splice_splice splice_splice0 length_splice_if
attribute [local go_sem ↓] execOp_box
attribute [local go_sem] box_run nth_arr_u8 put_arr_u8 blk_drewN free_drewN put_drewN blk_raw free_raw
/-- The model's state. -/
structure MS where
  ld : Bool
  p : PP
  F : List (List NRow)
def MS.zero : MS := ⟨false, PP.zero, []⟩
/-- What is true of a state in which a policy is loaded. -/
structure MsI (m : MS) : Prop where
  pg : PgV m.p
  len : m.F.length = m.p.preds.length
  nd : ∀ q, (m.F.getD q []).Nodup
  cap : ∀ L ∈ m.F, L.length ≤ 512
  row : ∀ q r, memN m.F q r → r.length = arP m.p q ∧ (pI m.p q).base = true ∧ ∀ x ∈ r, x.length ≤ 64
  con : (constF m.p.pool m.F).length ≤ 256
  nov : ∀ F1 T1, PfTo m.p (constF m.p.pool m.F) 0 m.F [] F1 T1 → overN F1 = false
theorem MsI.r4 {m : MS} (h : MsI m) : Rows4 m.F := fun L hL r hr => by
  obtain ⟨q, hq⟩ := List.mem_iff_getElem?.1 hL
  have h1 := (h.row q r (by unfold memN; rw [List.getD_eq_getElem?_getD, hq]; exact hr)).1
  rw [h1]; exact ar4 h.pg.g.pok q
theorem lm_len {p : PP} (hp : PgG p) {B : Nat → NRow → Prop} (hB : ∀ q x, B q x → x.length = arP p q) : ∀ (s q : Nat) (x : NRow), LM (gN p.pool) p B s q x → x.length = arP p q
  | 0, q, x, h => hB q x h
  | s + 1, q, x, h => by
    have ih := lm_len hp hB s
    cases h with
    | old _ _ h => exact ih q x h
    | rule r τ hr _ _ _ =>
      unfold gN
      rw [List.length_map]
      exact (hp.rul r hr).1.1
/-- What the model computes. -/
theorem MsI.perf {m : MS} (h : MsI m) {F1 : List (List NRow)} {T1 : List NStep} (hP : PfTo m.p (constF m.p.pool m.F) 0 m.F [] F1 T1) : (∀ q, (F1.getD q []).Nodup) ∧ F1.length = m.p.preds.length ∧ (∀ q x, memN F1 q x → x.length = arP m.p q ∧ ∀ y ∈ x, y.length ≤ 64) ∧ ∀ q, (F1.getD q []).length ≤ 512 := by
  have hdom : ∀ q x, memN m.F q x → ∀ y ∈ x, y ∈ constF m.p.pool m.F := fun q x hx y hy => by
    refine constF_mem.2 (.inr ?_)
    have hx' : x ∈ m.F.getD q [] := hx
    rw [List.getD_eq_getElem?_getD] at hx'
    cases hq : m.F[q]? with
    | none => rw [hq] at hx'; cases hx'
    | some L => rw [hq] at hx'; exact ⟨L, List.mem_of_getElem? hq, x, hx', hy⟩
  obtain ⟨m1, m2, m3, m4, m5⟩ := hP.lm (N := m.p.preds.length) (B := memN m.F) (fun r hr => ⟨h.pg.g.fit hr, (h.pg.g.rul r hr).2.2⟩) (fun r hr => (h.pg.g.pok.rl r hr).2) (fun x hx => constF_mem.2 (.inl hx)) h.pg.neg h.pg.top h.len hdom h.nd ⟨fun q x hx => LM.up hx, fun q x hx => hx⟩ (Nat.zero_le _)
  refine ⟨m3, m4, fun q x hx => ⟨lm_len h.pg.g (fun q x hx => (h.row q x hx).1) _ q x (m1 q x hx), fun y hy => ?_⟩, fun q => overN_not.1 (h.nov F1 T1 hP) q⟩
  rcases constF_mem.1 (m5 q x hx y hy) with h9 | ⟨Ls, h1, r, h2, h3⟩
  · exact h.pg.g.pool.2 y h9
  · obtain ⟨q', hq'⟩ := List.mem_iff_getElem?.1 h1
    exact (h.row q' r (by unfold memN; rw [List.getD_eq_getElem?_getD, hq']; exact h2)).2.2 y h3
/-- The state in memory. -/
structure MAt (W : World) (bm : Nat) (m : MS) (Ce : List Value) (fa : Option Addr) (fc : Nat) : Prop where
  cell : blk W bm = some Ce
  len : Ce.length = 7
  ld : nth Ce 0 = some (.bool m.ld)
  pg : m.ld = true → PgR W (Ce.drop 2) m.p
  fs : nth Ce 6 = some (.slice fa m.F.length fc)
  fc : m.ld = true → FactsAt W fa m.F.length m.F
theorem MAt.po {W : World} {bm : Nat} {m : MS} {Ce : List Value} {fa : Option Addr} {fc : Nat} (h : MAt W bm m Ce fa fc) (hl : m.ld = true) : ProgO W bm 2 m.p := ⟨Ce, h.cell, by rw [h.len]; omega, h.pg hl⟩
theorem MAt.ext {W V : World} {bm : Nat} {m : MS} {Ce : List Value} {fa : Option Addr} {fc : Nat} (h : MAt W bm m Ce fa fc) (hx : W.Extends V) : MAt V bm m Ce fa fc := ⟨(hx.blk (blk_lt h.cell)).trans h.cell, h.len, h.ld, fun e => (h.pg e).sub (Sub.ext hx), h.fs, fun e => (h.fc e).sub (Sub.ext hx)⟩
theorem MAt.pfe {W : World} {bm : Nat} {m : MS} {Ce : List Value} {fa : Option Addr} {fc : Nat} (h : MAt W bm m Ce fa fc) (hl : m.ld = true) (hI : MsI m) : PfE W bm 2 m.p fa m.F.length m.F := ⟨h.po hl, h.fc hl, hI.len, by rw [hI.len]; exact hI.pg.g.pok.nD, Nat.le_trans hI.pg.g.pok.nR (by decide), by have := hI.pg.g.pok.st.2; omega, fun r hr => by rw [hI.len]; exact hI.pg.g.fit hr, Nat.le_trans hI.pg.g.pok.nP (by decide), fun L hL => Nat.le_trans (hI.cap L hL) (by decide), hI.r4, hI.con⟩
/-- The cells of the policy. -/
theorem MAt.preds {W : World} {bm : Nat} {m : MS} {Ce : List Value} {fa : Option Addr} {fc : Nat} (h : MAt W bm m Ce fa fc) (hl : m.ld = true) : ∃ da dc, nth Ce 3 = some (.slice da m.p.preds.length dc) ∧ Rw PredInfo.enc 3 W da m.p.preds.length m.p.preds := by
  obtain ⟨sp, sd, sr, c0, c1, -, -, -, crd, -⟩ := h.pg hl
  obtain ⟨da, dn, dc⟩ := sd
  have e : m.p.preds.length = dn := crd.1
  rw [nth_drop] at c1
  refine ⟨da, dc, ?_, ?_⟩
  · rw [e]; exact c1
  · rw [e]; exact crd
/-- A query answered by the model. -/
def QyR (m : MS) (pr : Nat) (r : NRow) (xs : List UInt8) : Prop := (m.p.preds.length ≤ pr ∧ xs = [UInt8.ofNat 11, UInt8.ofNat 5]) ∨ (pr < m.p.preds.length ∧ ((r.length ≠ arP m.p pr ∧ xs = [UInt8.ofNat 13, UInt8.ofNat 5]) ∨ (r.length = arP m.p pr ∧ ∃ F1 T1, PfTo m.p (constF m.p.pool m.F) 0 m.F [] F1 T1 ∧ F1.length = m.F.length ∧ xs = [0, 5, if r ∈ F1.getD pr [] then 1 else 0])))
def MvPost (W : World) (R : List UInt8 → Prop) (e : Ending) (V : World) : Prop := ∃ xs a n c, e = .returned (.slice a n c) ∧ Ob W V a n c xs ∧ R xs
attribute [local go_sem ↓] execOp_bslice execOp_box
attribute [local go_sem] bslice27c box_run Tryz.zl75 Tryz.zs75 Tryz.zl52 Tryz.zs52 it_len it0 it1 it2
set_option maxRecDepth 40000 in
set_option maxHeartbeats 1000000 in
theorem query_any2 (W : World) (bm : Nat) (m : MS) (Ce : List Value) (fa : Option Addr) (fc : Nat) (h : MAt W bm m Ce fa fc) (hl : m.ld = true) (hI : MsI m) (dl : Bool) (pr : Nat) (hpr : pr ≤ 255) (ra : Option Addr) (rn rc : Nat) (r : NRow) (hr : Rw encS 1 W ra rn r) (hr4 : rn ≤ 4) : Calls Tryz.prog 58 #[.pointer (some ⟨bm, 0, none⟩), .agg (itemE dl (pr : Int) ra rn rc).toArray] W (MvPost W (QyR m pr r)) := by
  obtain ⟨Q, hQ⟩ : ∃ Q, Q = MvPost W (QyR m pr r) := ⟨_, rfl⟩
  rw [← hQ]
  have HQ := hid_of hQ
  obtain ⟨IE, eIE⟩ : ∃ IE, IE = itemE dl (pr : Int) ra rn rc := ⟨_, rfl⟩
  have il : IE.length = 3 := by rw [eIE]; rfl
  have n1 : nth IE 1 = some (.int .i64 (pr : Int)) := by rw [eIE]; rfl
  have n2 : nth IE 2 = some (.slice ra rn rc) := by rw [eIE]; rfl
  have l1 : 1 < IE.length := by omega
  have l2 : 2 < IE.length := by omega
  rw [← eIE]
  obtain ⟨da, dc, c3, hPr⟩ := h.preds hl
  have k3 : 3 < Ce.length := by rw [h.len]; omega
  have k6 : 6 < Ce.length := by rw [h.len]; omega
  have c6 := h.fs
  have hrl : r.length = rn := hr.1
  have HRL := hid_of hrl
  have HM := hid_of h
  have HI := hid_of hI
  have HR := hid_of hr
  obtain ⟨N, eN⟩ : ∃ N, N = m.p.preds.length := ⟨_, rfl⟩
  have hN64 : N ≤ 64 := by rw [eN]; exact hI.pg.g.pok.nD
  rw [← eN] at c3 hPr
  have HN := hid_of eN
  obtain ⟨fn, efn⟩ : ∃ fn, fn = m.F.length := ⟨_, rfl⟩
  have hfn : fn = N := by rw [efn, eN]; exact hI.len
  rw [← efn] at c6
  subst hfn
  have HFN := hid_of efn
  have HPR := hid_of hPr
  have HL := hid_of hl
  clear hQ eIE h hI hr hrl eN efn hPr hl
  go_enter Tryz.func58, Tryz.ntmps58
  go_upto_region 1 with fail
  refine wp_world (fun V => W.Extends V ∧ blk V W.heap.size = some IE) ⟨extends_alloc (ext_Ext (Ext.refl _)) _, by rw [blk_alloc, if_pos rfl]⟩ ?_
  rintro V1 ⟨hx1, hb3⟩
  obtain ⟨b3, e3⟩ : ∃ b3, b3 = W.heap.size := ⟨_, rfl⟩
  rw [← e3] at hb3 ⊢
  have hbm : blk V1 bm = some Ce := (HM.out.ext hx1).cell
  have HX1 := hid_of hx1
  have hneb : ¬ bm = b3 := by have := blk_lt HM.out.cell; omega
  clear hx1 e3
  by_cases hp : pr < fn
  rotate_left 1
  · have hp1 : ¬ (pr : Int) < (fn : Int) := by omega
    have hp2 : (fn : Int) ≤ (pr : Int) := by omega
    have hp3 : fn ≤ pr := by omega
    go_quiet (fail)
    go_wp2_with fail
    refine (refusal_any _ 11 5 (by decide) (by decide)).mono ?_
    rintro e V2 ⟨a2, n2', c2, rfl, ho2⟩
    dsimp only
    have HP : Hid (Q (.returned (.slice a2 n2' c2)) V2) := by
      show Q _ _
      rw [HQ.out]
      refine ⟨_, a2, n2', c2, rfl, ⟨row_base ho2.1 (extends_drewN HX1.out _).size, (extends_drewN HX1.out _).trans ho2.2.1, ho2.2.2⟩, .inl ⟨by rw [← HN.out]; exact hp3, rfl⟩⟩
    clear ho2
    go_wp2_with fail
    try go_ret
    exact HP.out
  have hp1 : (pr : Int) < (fn : Int) := by omega
  have hp2 : ¬ (fn : Int) ≤ (pr : Int) := by omega
  have hp3 : ¬ fn ≤ pr := by omega
  have p0 : (0 : Int) ≤ (pr : Int) := by omega
  have p2 : ((pr : Int)).toNat = pr := by omega
  obtain ⟨bd, Cd, rfl, g1, g2, g3⟩ := HPR.out.2 pr _ (pI_at (by rw [← HN.out]; exact hp))
  obtain ⟨har, har4⟩ := pI_ar HI.out.pg.g.pok (q := pr) (by rw [← HN.out]; exact hp)
  obtain ⟨ar, ear⟩ : ∃ ar, ar = arP m.p pr := ⟨_, rfl⟩
  rw [← ear] at har har4
  have m0 : nth Cd (pr * 3) = some (.int .i64 (ar : Int)) := by
    have h9 := nth_in (j := 0) g3 (show nth (PredInfo.enc (pI m.p pr)) 0 = some (.int .i64 (pI m.p pr).arity) from rfl) (by omega)
    rw [har] at h9
    exact h9
  have l9 : (pr + 1) * 3 ≤ fn * 3 := Nat.mul_le_mul_right _ hp
  have l0 : pr * 3 < Cd.length := by omega
  have hbd : blk V1 bd = some Cd := (HX1.out.blk (blk_lt g1)).trans g1
  have HAR := hid_of ear
  clear g1 g2 g3 har ear l9
  go_quiet (fail)
  obtain ⟨V2, hV2⟩ : ∃ Z, Z = V1.drewN nq := ⟨_, rfl⟩
  rw [← hV2]
  have hbm_ : blk V2 bm = some Ce := by rw [hV2]; exact hbm
  clear hbm
  have hbm := hbm_
  clear hbm_
  have hb3_ : blk V2 b3 = some IE := by rw [hV2]; exact hb3
  clear hb3
  have hb3 := hb3_
  clear hb3_
  have hbd_ : blk V2 bd = some Cd := by rw [hV2]; exact hbd
  clear hbd
  have hbd := hbd_
  clear hbd_
  have HX2 : Hid (W.Extends V2) := by show World.Extends _ _; rw [hV2]; exact extends_drewN HX1.out _
  clear hV2
  go_upto_region 3 with fail
  by_cases hra : rn = ar
  rotate_left 1
  · have hr1 : ¬ (rn : Int) = (ar : Int) := by omega
    have hr2 : ((rn : Int) == (ar : Int)) = false := by simp; omega
    have hr3 : ((rn : Int) != (ar : Int)) = true := by simp; omega
    go_quiet (fail)
    go_wp2_with fail
    refine (refusal_any _ 13 5 (by decide) (by decide)).mono ?_
    rintro e V3 ⟨a2, n2', c2, rfl, ho2⟩
    dsimp only
    have hxx := extends_drewN HX2.out nq
    have HP : Hid (Q (.returned (.slice a2 n2' c2)) V3) := by
      show Q _ _
      rw [HQ.out]
      refine ⟨_, a2, n2', c2, rfl, ⟨row_base ho2.1 hxx.size, hxx.trans ho2.2.1, ho2.2.2⟩, .inr ⟨by rw [← HN.out]; exact hp, .inl ⟨by rw [HRL.out, ← HAR.out]; exact hra, rfl⟩⟩⟩
    clear ho2 hxx
    go_wp2_with fail
    try go_ret
    exact HP.out
  subst hra
  go_quiet (fail)
  obtain ⟨V3, hV3⟩ : ∃ Z, Z = V2.drewN nq := ⟨_, rfl⟩
  rw [← hV3]
  have hbm_ : blk V3 bm = some Ce := by rw [hV3]; exact hbm
  clear hbm
  have hbm := hbm_
  clear hbm_
  have hb3_ : blk V3 b3 = some IE := by rw [hV3]; exact hb3
  clear hb3
  have hb3 := hb3_
  clear hb3_
  have hbd_ : blk V3 bd = some Cd := by rw [hV3]; exact hbd
  clear hbd
  have hbd := hbd_
  clear hbd_
  have HX3 : Hid (W.Extends V3) := by show World.Extends _ _; rw [hV3]; exact extends_drewN HX2.out _
  clear hV3
  have hpf := perfectN_any V3.drew bm 2 m.p fa fn fc m.F (by
    have h9 := (HM.out.ext (extends_drewN HX3.out 1)).pfe HL.out HI.out
    rw [← HFN.out] at h9
    exact h9)
  go_upto_region 5 with fail
  repeat go_step
  refine wp_region_held_drew (S := fun W' => blk W' bm = some Ce) (by kernel_rfl) hbm (fun hHeld => ?_)
  refine wpAnyH_take (i := 0) (oi := ⟨_, _, _, _, _, _⟩) (v := ?_) rfl (by kernel_rfl) (by kernel_rfl) (by kernel_rfl) (fun _ _ _ h => h) (Or.inl ⟨by rfl, ?_⟩) (by assumption) ?_
  rotate_left 1
  · intro W' hSw
    go_simp
    try with_reducible rfl
  try simp only [Act.put, List.setIfInBounds_toArray, List.set_cons_zero, List.set_cons_succ]
  refine wpAnyH_take (i := 1) (oi := ⟨_, _, _, _, _, _⟩) (v := ?_) rfl (by kernel_rfl) (by kernel_rfl) (by kernel_rfl) (fun _ _ _ h => h) (Or.inl ⟨by rfl, ?_⟩) (by assumption) ?_
  rotate_left 1
  · intro W' hSw
    go_simp
    try with_reducible rfl
  try simp only [Act.put, List.setIfInBounds_toArray, List.set_cons_zero, List.set_cons_succ]
  refine wpAnyH_take (i := 2) (oi := ⟨_, _, _, _, _, _⟩) (v := ?_) rfl (by kernel_rfl) (by kernel_rfl) (by kernel_rfl) (fun _ _ _ h => h) (Or.inl ⟨by rfl, ?_⟩) (by assumption) ?_
  rotate_left 1
  · intro W' hSw
    go_simp
    try with_reducible rfl
  try simp only [Act.put, List.setIfInBounds_toArray, List.set_cons_zero, List.set_cons_succ]
  refine wpAnyH_take (i := 3) (oi := ⟨_, _, _, _, _, _⟩) (v := ?_) rfl (by kernel_rfl) (by kernel_rfl) (by kernel_rfl) (fun _ _ _ h => h) (Or.inl ⟨by rfl, ?_⟩) (by assumption) ?_
  rotate_left 1
  · intro W' hSw
    go_simp
    try with_reducible rfl
  try simp only [Act.put, List.setIfInBounds_toArray, List.set_cons_zero, List.set_cons_succ]
  refine wpAnyH_take (i := 4) (oi := ⟨_, _, _, _, _, _⟩) (v := ?_) rfl (by kernel_rfl) (by kernel_rfl) (by kernel_rfl) (fun _ _ _ h => h) (Or.inl ⟨by rfl, ?_⟩) (by assumption) ?_
  rotate_left 1
  · intro W' hSw
    go_simp
    try with_reducible rfl
  try simp only [Act.put, List.setIfInBounds_toArray, List.set_cons_zero, List.set_cons_succ]
  refine wpAnyH_take (i := 5) (oi := ⟨_, _, _, _, _, _⟩) (v := ?_) rfl (by kernel_rfl) (by kernel_rfl) (by kernel_rfl) (fun _ _ _ h => h) (Or.inl ⟨by rfl, ?_⟩) (by assumption) ?_
  rotate_left 1
  · intro W' hSw
    go_simp
    try with_reducible rfl
  try simp only [Act.put, List.setIfInBounds_toArray, List.set_cons_zero, List.set_cons_succ]
  refine wpAnyH_take (i := 6) (oi := ⟨_, _, _, _, _, _⟩) (v := ?_) rfl (by kernel_rfl) (by kernel_rfl) (by kernel_rfl) (fun _ _ _ h => h) (Or.inl ⟨by rfl, ?_⟩) (by assumption) ?_
  rotate_left 1
  · intro W' hSw
    go_simp
    try with_reducible rfl
  try simp only [Act.put, List.setIfInBounds_toArray, List.set_cons_zero, List.set_cons_succ]
  refine wpAnyH_ready (rs := [7]) (by kernel_rfl) (by simp) ?_
  refine AllReadyH.cons (o := ⟨_, _, _, _, _, _⟩) rfl (fun K' hK => ?_) AllReadyH.nil
  go_simp
  refine hpf.mono ?_
  rintro e V4 ⟨bo, ta, tn, tc, F1, T1, rfl, hPf, hFl, hx4, hFA, -, -, hLL, hR4⟩
  dsimp only
  have hbm4 : blk V4 bm = some Ce := (hx4.blk (blk_lt hbm)).trans hbm
  refine hK.out _ _ hbm4 (fun hHeld => ?_)
  clear hK K'
  try simp only [Act.put, List.setIfInBounds_toArray, List.set_cons_zero, List.set_cons_succ]
  refine wpAnyH_take (i := 8) (oi := ⟨_, _, _, _, _, _⟩) (v := ?_) rfl (by kernel_rfl) (by kernel_rfl) (by kernel_rfl) (fun _ _ _ h => h) (Or.inl ⟨by rfl, ?_⟩) (by assumption) ?_
  rotate_left 1
  · intro W' hSw
    go_simp
    try with_reducible rfl
  try simp only [Act.put, List.setIfInBounds_toArray, List.set_cons_zero, List.set_cons_succ]
  refine wpAnyH_take (i := 9) (oi := ⟨_, _, _, _, _, _⟩) (v := ?_) rfl (by kernel_rfl) (by kernel_rfl) (by kernel_rfl) (fun _ _ _ h => h) (Or.inl ⟨by rfl, ?_⟩) (by assumption) ?_
  rotate_left 1
  · intro W' hSw
    go_simp
    try with_reducible rfl
  try simp only [Act.put, List.setIfInBounds_toArray, List.set_cons_zero, List.set_cons_succ]
  refine wpAnyH_take (i := 10) (oi := ⟨_, _, _, _, _, _⟩) (v := ?_) rfl (by kernel_rfl) (by kernel_rfl) (by kernel_rfl) (fun _ _ _ h => h) (Or.inl ⟨by rfl, ?_⟩) (by assumption) ?_
  rotate_left 1
  · intro W' hSw
    go_simp
    try with_reducible rfl
  try simp only [Act.put, List.setIfInBounds_toArray, List.set_cons_zero, List.set_cons_succ]
  refine wpAnyH_take (i := 11) (oi := ⟨_, _, _, _, _, _⟩) (v := ?_) rfl (by kernel_rfl) (by kernel_rfl) (by kernel_rfl) (fun _ _ _ h => h) (Or.inl ⟨by rfl, ?_⟩) (by assumption) ?_
  rotate_left 1
  · intro W' hSw
    go_simp
    try with_reducible rfl
  try simp only [Act.put, List.setIfInBounds_toArray, List.set_cons_zero, List.set_cons_succ]
  refine wpAnyH_take (i := 12) (oi := ⟨_, _, _, _, _, _⟩) (v := ?_) rfl (by kernel_rfl) (by kernel_rfl) (by kernel_rfl) (fun _ _ _ h => h) (Or.inl ⟨by rfl, ?_⟩) (by assumption) ?_
  rotate_left 1
  · intro W' hSw
    go_simp
    try with_reducible rfl
  try simp only [Act.put, List.setIfInBounds_toArray, List.set_cons_zero, List.set_cons_succ]
  refine wpAnyH_done (by kernel_rfl) ?_ _
  clear hHeld hpf
  have hF1q : F1[pr]? = some (F1.getD pr []) := by rw [List.getD_eq_getElem?_getD, List.getElem?_eq_getElem (by rw [hFl, ← HFN.out]; exact hp)]; rfl
  obtain ⟨bq, Cq, sq, eqq, y1, y2, y3, y4⟩ := hFA.at hF1q
  have ebq : bq = bo := by cases eqq; rfl
  subst ebq
  obtain ⟨sa, sn, sc⟩ := sq
  dsimp only at y3 y4
  have hsn : (F1.getD pr []).length = sn := y4.choose_spec.2.1
  have hsb : sn ≤ 1000000000000 := by rw [← hsn]; exact hLL _ (List.mem_of_getElem? hF1q)
  have hmem := member_names V4.drew sa ra sn rn sc rc hsb (F1.getD pr []) r (y4.sub (sub_drewN _ 1)) (fun x hx => Nat.le_trans (hR4 _ (List.mem_of_getElem? hF1q) x hx) (by decide)) (HR.out.sub (Sub.ext ((extends_drewN HX3.out 1).trans (hx4.trans (extends_drewN (ext_Ext (Ext.refl _)) 1)))))
  obtain ⟨mb, emb⟩ : ∃ mb, mb = decide (r ∈ F1.getD pr []) := ⟨_, rfl⟩
  rw [← emb] at hmem
  have HMB := hid_of emb
  have hb34 : blk V4 b3 = some IE := ((extends_drewN (ext_Ext (Ext.refl V3)) 1).trans hx4 |>.blk (blk_lt hb3)).trans hb3
  have HX4 : Hid (W.Extends V4) := (extends_drewN HX3.out 1).trans hx4
  have HPF : Hid (PfTo m.p (constF m.p.pool m.F) 0 m.F [] F1 T1 ∧ F1.length = m.F.length) := ⟨hPf, hFl⟩
  rw [← HFN.out]
  clear hPf hFl hx4 hFA hLL hR4 eqq y4 hsn emb hF1q hbm hb3 hbd
  go_upto_region 6 with fail
  repeat go_step
  refine wp_region_held_drew (S := fun W' => blk W' b3 = some IE ∧ blk W' bq = some Cq) (by kernel_rfl) ⟨hb34, y1⟩ (fun hHeld => ?_)
  refine wpAnyH_take (i := 0) (oi := ⟨_, _, _, _, _, _⟩) (v := ?_) rfl (by kernel_rfl) (by kernel_rfl) (by kernel_rfl) (fun _ _ _ h => h) (Or.inl ⟨by rfl, ?_⟩) (by assumption) ?_
  rotate_left 1
  · intro W' hSw
    obtain ⟨hS1, hS2⟩ := hSw
    go_simp
    try with_reducible rfl
  try simp only [Act.put, List.setIfInBounds_toArray, List.set_cons_zero, List.set_cons_succ]
  refine wpAnyH_take (i := 1) (oi := ⟨_, _, _, _, _, _⟩) (v := ?_) rfl (by kernel_rfl) (by kernel_rfl) (by kernel_rfl) (fun _ _ _ h => h) (Or.inl ⟨by rfl, ?_⟩) (by assumption) ?_
  rotate_left 1
  · intro W' hSw
    obtain ⟨hS1, hS2⟩ := hSw
    go_simp
    try with_reducible rfl
  try simp only [Act.put, List.setIfInBounds_toArray, List.set_cons_zero, List.set_cons_succ]
  refine wpAnyH_take (i := 2) (oi := ⟨_, _, _, _, _, _⟩) (v := ?_) rfl (by kernel_rfl) (by kernel_rfl) (by kernel_rfl) (fun _ _ _ h => h) (Or.inl ⟨by rfl, ?_⟩) (by assumption) ?_
  rotate_left 1
  · intro W' hSw
    obtain ⟨hS1, hS2⟩ := hSw
    go_simp
    try with_reducible rfl
  try simp only [Act.put, List.setIfInBounds_toArray, List.set_cons_zero, List.set_cons_succ]
  refine wpAnyH_take (i := 3) (oi := ⟨_, _, _, _, _, _⟩) (v := ?_) rfl (by kernel_rfl) (by kernel_rfl) (by kernel_rfl) (fun _ _ _ h => h) (Or.inl ⟨by rfl, ?_⟩) (by assumption) ?_
  rotate_left 1
  · intro W' hSw
    obtain ⟨hS1, hS2⟩ := hSw
    go_simp
    try with_reducible rfl
  try simp only [Act.put, List.setIfInBounds_toArray, List.set_cons_zero, List.set_cons_succ]
  refine wpAnyH_take (i := 4) (oi := ⟨_, _, _, _, _, _⟩) (v := ?_) rfl (by kernel_rfl) (by kernel_rfl) (by kernel_rfl) (fun _ _ _ h => h) (Or.inl ⟨by rfl, ?_⟩) (by assumption) ?_
  rotate_left 1
  · intro W' hSw
    obtain ⟨hS1, hS2⟩ := hSw
    go_simp
    try with_reducible rfl
  try simp only [Act.put, List.setIfInBounds_toArray, List.set_cons_zero, List.set_cons_succ]
  refine wpAnyH_take (i := 5) (oi := ⟨_, _, _, _, _, _⟩) (v := ?_) rfl (by kernel_rfl) (by kernel_rfl) (by kernel_rfl) (fun _ _ _ h => h) (Or.inl ⟨by rfl, ?_⟩) (by assumption) ?_
  rotate_left 1
  · intro W' hSw
    obtain ⟨hS1, hS2⟩ := hSw
    go_simp
    try with_reducible rfl
  try simp only [Act.put, List.setIfInBounds_toArray, List.set_cons_zero, List.set_cons_succ]
  refine wpAnyH_take (i := 6) (oi := ⟨_, _, _, _, _, _⟩) (v := ?_) rfl (by kernel_rfl) (by kernel_rfl) (by kernel_rfl) (fun _ _ _ h => h) (Or.inl ⟨by rfl, ?_⟩) (by assumption) ?_
  rotate_left 1
  · intro W' hSw
    obtain ⟨hS1, hS2⟩ := hSw
    go_simp
    try with_reducible rfl
  try simp only [Act.put, List.setIfInBounds_toArray, List.set_cons_zero, List.set_cons_succ]
  refine wpAnyH_ready (rs := [7]) (by kernel_rfl) (by simp) ?_
  refine AllReadyH.cons (o := ⟨_, _, _, _, _, _⟩) rfl (fun K' hK => ?_) AllReadyH.nil
  go_simp
  refine hmem.mono ?_
  rintro e V5' ⟨rfl, j5, e5⟩
  dsimp only
  obtain ⟨V5, hV5⟩ : ∃ Z, Z = V5' := ⟨_, rfl⟩
  rw [← hV5]
  have hb35 : blk V5 b3 = some IE ∧ blk V5 bq = some Cq := by rw [hV5, e5]; exact ⟨hb34, y1⟩
  have HX5 : Hid (W.Extends V5) := by show World.Extends _ _; rw [hV5, e5]; exact extends_drewN (extends_drewN HX4.out 1) j5
  clear e5 hV5
  refine hK.out _ _ hb35 (fun hHeld => ?_)
  clear hK K'
  try simp only [Act.put, List.setIfInBounds_toArray, List.set_cons_zero, List.set_cons_succ]
  refine wpAnyH_done (by kernel_rfl) ?_ _
  clear hHeld hmem
  have hob : ∀ (x : UInt8) (y : Int), u8v x = .int .u8 y → Ob W (V5.alloc (.cells #[.int .u8 0, .int .u8 5, .int .u8 y] 5)) (some ⟨V5.heap.size, 0, none⟩) 3 3 [0, 5, x] := fun x y hy => by
    have h9 := ob_new HX5.out [0, 5, x] (by simp) #[.int .u8 0, .int .u8 5, .int .u8 y] (by
      show _ = (List.map u8v _).toArray
      rw [List.map_cons, List.map_cons, List.map_cons, List.map_nil, hy]; rfl) 3 rfl
    exact h9
  cases mb with
  | true =>
    have HP : Hid (Q (.returned (.slice (some ⟨V5.heap.size, 0, none⟩) 3 3)) (V5.alloc (.cells #[.int .u8 0, .int .u8 5, .int .u8 1] 5))) := by
      show Q _ _
      rw [HQ.out]
      refine ⟨_, _, _, _, rfl, hob 1 1 rfl, .inr ⟨by rw [← HN.out]; exact hp, .inr ⟨by rw [HRL.out, ← HAR.out], F1, T1, HPF.out.1, HPF.out.2, ?_⟩⟩⟩
      rw [if_pos (of_decide_eq_true HMB.out.symm)]
    clear hob
    go_wp2_with fail
    try go_ret
    exact HP.out
  | false =>
    have HP : Hid (Q (.returned (.slice (some ⟨V5.heap.size, 0, none⟩) 3 3)) (V5.alloc (.cells #[.int .u8 0, .int .u8 5, .int .u8 0] 5))) := by
      show Q _ _
      rw [HQ.out]
      refine ⟨_, _, _, _, rfl, hob 0 0 rfl, .inr ⟨by rw [← HN.out]; exact hp, .inr ⟨by rw [HRL.out, ← HAR.out], F1, T1, HPF.out.1, HPF.out.2, ?_⟩⟩⟩
      rw [if_neg (of_decide_eq_false HMB.out.symm)]
    clear hob
    go_wp2_with fail
    try go_ret
    exact HP.out
end Go.Proofs.Qxb6500787aGreat
