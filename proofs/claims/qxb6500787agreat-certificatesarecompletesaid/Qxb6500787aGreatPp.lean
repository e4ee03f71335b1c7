import Derived.Test.Qxb6500787aGreatPo
import Derived.Test.Qxb6500787aGreatPj

import Derived.StillTailTactics
import Derived.Deep.QuietTactic
import Derived.BigQuiet
import Derived.Deep.RegionHeld
import Derived.Deep.CutRange
import Derived.Laws.ResultCell
import Derived.Laws.Rows
import Derived.DeepKeys
import Derived.DataBytes
import Derived.Laws.StructEq
import Derived.Laws.AppendOwn
import Derived.Laws.MakeOwn
import Derived.Lib.AppendStr
set_option linter.unusedSimpArgs false
set_option linter.unusedVariables false
namespace Go.Proofs.Qxb6500787aGreat
open Go.RowKit Go.Blk
attribute [local go_sem ↓] execOp_load execOp_store execOp_alloc
attribute [local go_sem] Tryz.ld26 Tryz.st26 Tryz.ld27 Tryz.st27 Tryz.ld28 Tryz.st28 Tryz.ld3 Tryz.st3 Tryz.ld29 Tryz.st29 Tryz.ld44 Tryz.st44 Tryz.ld4 Tryz.st4 Tryz.ld50 Tryz.st50 Tryz.ld32 Tryz.st32 Tryz.ld49 Tryz.st49 Tryz.ld68 Tryz.st68 Tryz.ld9 Tryz.st9 Tryz.ld40 Tryz.st40 Tryz.ld138 Tryz.st138 Tryz.ld139 Tryz.st139 Tryz.ld146 Tryz.st146 Tryz.ld183 Tryz.st183 Tryz.ld184 Tryz.st184 Tryz.ld192 Tryz.st192 Tryz.ld195 Tryz.st195 Tryz.ld217 Tryz.st217 Tryz.ld159 Tryz.st159 Tryz.ld142 Tryz.st142 Tryz.ld2 Tryz.st2 Tryz.ld5 Tryz.st5 Tryz.ld12 Tryz.st12 Tryz.ld21 Tryz.st21 Tryz.ld22 Tryz.st22 Tryz.ld24 Tryz.st24 Tryz.ld58 Tryz.st58 Tryz.ld97 Tryz.st97 Tryz.ld101 Tryz.st101 Tryz.ld116 Tryz.st116 Tryz.ld121 Tryz.st121 Tryz.ld135 Tryz.st135 Tryz.ld136 Tryz.st136 Tryz.ld143 Tryz.st143 Tryz.ld148 Tryz.st148 Tryz.ld154 Tryz.st154 Tryz.ld173 Tryz.st173 Tryz.ld187 Tryz.st187 Tryz.ld222 Tryz.st222 Tryz.ld241 Tryz.st241 Tryz.ld248 Tryz.st248 Tryz.ld268 Tryz.st268 Tryz.ld272 Tryz.st272 Tryz.ld153 Tryz.st153 Tryz.ld255 Tryz.st255 Tryz.ld256 Tryz.st256 Tryz.ld129 Tryz.st129 Tryz.ld152 Tryz.st152 Tryz.ld31 Tryz.st31 Tryz.ld46 Tryz.st46 Tryz.ld52 Tryz.st52 Tryz.ld54 Tryz.st54 Tryz.ld60 Tryz.st60 Tryz.ld70 Tryz.st70 Tryz.ld74 Tryz.st74 Tryz.ld93 Tryz.st93 Tryz.ld141 Tryz.st141 Tryz.ld151 Tryz.st151 Tryz.ld170 Tryz.st170 Tryz.ld186 Tryz.st186 Tryz.ld189 Tryz.st189 Tryz.ld194 Tryz.st194 Tryz.ld197 Tryz.st197 Tryz.ld219 Tryz.st219 Tryz.ld224 Tryz.st224 Tryz.ld230 Tryz.st230 Tryz.ld235 Tryz.st235 Tryz.ld243 Tryz.st243 Tryz.ld247 Tryz.st247 Tryz.ld252 Tryz.st252 Tryz.ld258 Tryz.st258 Tryz.al153 Tryz.al255 Tryz.al256 Tryz.al129 Tryz.al152 Tryz.al31 Tryz.al46 Tryz.al52 Tryz.al54 Tryz.al60 Tryz.al70 Tryz.al74 Tryz.al93 Tryz.al141 Tryz.al151 Tryz.al170 Tryz.al186 Tryz.al189 Tryz.al194 Tryz.al197 Tryz.al219 Tryz.al224 Tryz.al230 Tryz.al235 Tryz.al243 Tryz.al247 Tryz.al252 Tryz.al258
attribute [local go_sem] Request.length_enc Request.ok_enc Request.all_get Request.all_set Request.kind_get Request.kind_set Request.blob_get Request.blob_set Request.items_get Request.items_set Request.pred_get Request.pred_set Request.slots_get Request.slots_set Trace.length_enc Trace.ok_enc Trace.all_get Trace.all_set Trace.op_get Trace.op_set Trace.calls_get Trace.calls_set Item.length_enc Item.ok_enc Item.all_get Item.all_set Item.del_get Item.del_set Item.pred_get Item.pred_set Item.args_get Item.args_set Reply.length_enc Reply.ok_enc Reply.all_get Reply.all_set Reply.code_get Reply.code_set Reply.kind_get Reply.kind_set Reply.index_get Reply.index_set Reply.yes_get Reply.yes_set Reply.preds_get Reply.preds_set Reply.rules_get Reply.rules_set Reply.arity_get Reply.arity_set Reply.rows_get Reply.rows_set Reply.fact_get Reply.fact_set Reply.fact_del_get Reply.fact_del_set Reply.fact_pred_get Reply.fact_pred_set Reply.fact_args_get Reply.fact_args_set GEntry.length_enc GEntry.ok_enc GEntry.all_get GEntry.all_set GEntry.seq_get GEntry.seq_set GEntry.kind_get GEntry.kind_set GEntry.code_get GEntry.code_set GOp.length_enc GOp.ok_enc GOp.all_get GOp.all_set GOp.kind_get GOp.kind_set GOp.raw_get GOp.raw_set Reader.length_enc Reader.ok_enc Reader.all_get Reader.all_set Reader.buf_get Reader.buf_set Reader.at__get Reader.at__set Slot.length_enc Slot.ok_enc Slot.all_get Slot.all_set Slot.bound_get Slot.bound_set Slot.name_get Slot.name_set Session.length_enc Session.ok_enc Session.all_get Session.all_set Session.svc_get Session.svc_set Session.buf_get Session.buf_set Session.closed_get Session.closed_set GProgram.length_enc GProgram.ok_enc GProgram.all_get GProgram.all_set GProgram.pool_get GProgram.pool_set GProgram.preds_get GProgram.preds_set GProgram.rules_get GProgram.rules_set GProgram.strata_get GProgram.strata_set PredInfo.length_enc PredInfo.ok_enc PredInfo.all_get PredInfo.all_set PredInfo.arity_get PredInfo.arity_set PredInfo.base_get PredInfo.base_set PredInfo.stratum_get PredInfo.stratum_set Change.length_enc Change.ok_enc Change.all_get Change.all_set Change.del_get Change.del_set Change.pred_get Change.pred_set Change.t_get Change.t_set Store.length_enc Store.ok_enc Store.all_get Store.all_set Store.names_get Store.names_set Store.arity_get Store.arity_set Store.rows_get Store.rows_set Src.length_enc Src.ok_enc Src.all_get Src.all_set Src.b_get Src.b_set Src.at__get Src.at__set Atom.length_enc Atom.ok_enc Atom.all_get Atom.all_set Atom.pred_get Atom.pred_set Atom.args_get Atom.args_set GRule.length_enc GRule.ok_enc GRule.all_get GRule.all_set GRule.head_get GRule.head_set GRule.body_get GRule.body_set GRule.head_pred_get GRule.head_pred_set GRule.head_args_get GRule.head_args_set Cert.length_enc Cert.ok_enc Cert.all_get Cert.all_set Cert.names_get Cert.names_set Cert.nodes_get Cert.nodes_set Fact.length_enc Fact.ok_enc Fact.all_get Fact.all_set Fact.pred_get Fact.pred_set Fact.t_get Fact.t_set Literal.length_enc Literal.ok_enc Literal.all_get Literal.all_set Literal.neg_get Literal.neg_set Literal.atom_get Literal.atom_set Literal.atom_pred_get Literal.atom_pred_set Literal.atom_args_get Literal.atom_args_set Engine.length_enc Engine.ok_enc Engine.all_get Engine.all_set Engine.prog_get Engine.prog_set Engine.st_get Engine.st_set SrcCertm.length_enc SrcCertm.ok_enc SrcCertm.all_get SrcCertm.all_set SrcCertm.b_get SrcCertm.b_set SrcCertm.at__get SrcCertm.at__set GNode.length_enc GNode.ok_enc GNode.all_get GNode.all_set GNode.rule_get GNode.rule_set GNode.pred_get GNode.pred_set GNode.vals_get GNode.vals_set GNode.refs_get GNode.refs_set Term.length_enc Term.ok_enc Term.all_get Term.all_set Term.var_get Term.var_set Term.n_get Term.n_set Env.length_enc Env.ok_enc Env.all_get Env.all_set Env.val_get Env.val_set Env.set_get Env.set_set
attribute [local go_sem] size_put size_ext blk_put free_put blk_alloc free_alloc blk_drew free_drew blk_ext free_ext lookOr_some putOr_some segAt_some cellAt_some storeIn_some put_put put_alloc_new length_arr ok_arr_u8 ok_arr_u32 ok_arr_u64 ok_arr_i64 ok_arr_sl cellsV_agg cellsV_int cellsV_bool cellsV_string cellsV_pointer cellsV_slice cellsV_sl ok_int ok_bool ok_string ok_pointer ok_slice ok_sl toList_arr seg_arr set_arr nth_splice nth_splice0 seg_splice seg_splice0 splice_splice splice_splice0 length_splice_if
attribute [local go_sem ↓] execOp_box
attribute [local go_sem] box_run nth_arr_u8 put_arr_u8 blk_drewN free_drewN put_drewN blk_raw free_raw

/-- A request answered by the model. -/
def MvR (m : MS) (raw out : List UInt8) (m' : MS) : Prop :=
  ((decF raw).1 ≠ 0 ∧ out = [UInt8.ofNat (decF raw).1.toNat, UInt8.ofNat 0] ∧ m' = m) ∨
  ((decF raw).1 = 0 ∧ (((decF raw).2.kind = 1 ∧ LdM m (decF raw).2.blob out m') ∨
    ((decF raw).2.kind ≠ 1 ∧ m.ld = false ∧ out = [UInt8.ofNat 10, UInt8.ofNat (decF raw).2.kind.toNat] ∧ m' = m) ∨
    ((decF raw).2.kind ≠ 1 ∧ m.ld = true ∧ ((((decF raw).2.kind = 2 ∨ (decF raw).2.kind = 3 ∨ (decF raw).2.kind = 4) ∧ UpR m (decF raw).2.kind.toNat (decF raw).2.items out m') ∨
      ((decF raw).2.kind = 5 ∧ QyR m (itP (decF raw).2) (itA (decF raw).2) out ∧ m' = m) ∨
      ((decF raw).2.kind = 6 ∧ PtM m (decF raw).2.pred.toNat (decF raw).2.slots out ∧ m' = m) ∨
      ((decF raw).2.kind = 7 ∧ GrM m (decF raw).2.blob out ∧ m' = m)))))
theorem zlab_lab (O : Own) {n n' : Nat} (h : n ≤ n') (l : Lab) : lab (lab O n l) n' l = lab O n l := by
  funext k
  by_cases hk : k < n'
  · rw [lab_lt hk]
  · rw [lab_ge (by omega), lab_ge (by omega)]
theorem up_up {O : Own} {W V V' : World} {bm : Nat} {R R' : List UInt8 → MS → Prop} {e : Ending} (hx : W.Extends V) (hb : bm < W.heap.size) (h : UpPost (lab O W.heap.size .no) V bm R e V') (hR : ∀ xs m', R xs m' → R' xs m') : UpPost O W bm R' e V' := by
  obtain ⟨xs, a, n, c, m', Ce', fa', fc', rfl, h1, h2, h3, h4, h5⟩ := h
  rw [zlab_lab O hx.size] at h2
  exact ⟨xs, a, n, c, m', Ce', fa', fc', rfl, ⟨h1.os.trans hx.os, h1.tape.trans hx.tape, h1.output.trans hx.output, Nat.le_trans hx.size h1.size, fun k hk hn => (h1.heap k (Nat.lt_of_lt_of_le hk hx.size) hn).trans (hx.block k hk), h1.blk, h1.free⟩, h2, row_base h3 hx.size, h4, hR _ _ h5⟩
theorem up_mv {O : Own} {W V V' : World} {bm : Nat} {m : MS} {Ce : List Value} {fa : Option Addr} {fc : Nat} (h : MAo O W bm m Ce fa fc) (hx : W.Extends V) {R : List UInt8 → Prop} {R' : List UInt8 → MS → Prop} {e : Ending} (hm : MvPost V R e V') (hR : ∀ xs, R xs → R' xs m) : UpPost O W bm R' e V' := by
  obtain ⟨xs, a, n, c, rfl, ho, h5⟩ := hm
  exact up_of h ⟨row_base ho.1 hx.size, hx.trans ho.2.1, ho.2.2⟩ (hR _ h5)
theorem decF_bd {raw : List UInt8} (h0 : (decF raw).1 = 0) (hl : raw.length ≤ 65536) : (∀ it ∈ (decF raw).2.items, it.2.1 ≤ 255) ∧ ((decF raw).2.kind = 6 → (decF raw).2.pred ≤ 255) := by
  obtain ⟨k, pay, ⟨hk, k1, k7, -, v1, v2, v4, v6⟩, -⟩ := decF_inv (q := (decF raw).2) (by rw [← h0]) hl
  refine ⟨fun it hit => ?_, fun e => ?_⟩
  · rcases (show (k = 1 ∨ k = 7) ∨ (k = 2 ∨ k = 3 ∨ k = 5) ∨ k = 4 ∨ k = 6 from by omega) with h | h | h | h
    · rw [(v1 h).2.1] at hit; cases hit
    · obtain ⟨it', e1, e2, -⟩ := v2 h
      rw [e1, List.mem_singleton] at hit
      rw [hit]; exact e2.2.1
    · exact ((v4 h).2.1 it hit).2.1
    · obtain ⟨p, -, -, -, -, -, -, e1⟩ := v6 h
      rw [e1] at hit; cases hit
  · obtain ⟨p, e1, e2, -⟩ := v6 (by omega)
    rw [e1]; omega
attribute [local go_sem] it_len it0 it1 it2
set_option maxRecDepth 40000 in
set_option maxHeartbeats 1000000 in
theorem mserve_any (O : Own) (h8 : ∀ k j, O k ≠ .a 8 j) (W : World) (bm : Nat) (m : MS) (Ce : List Value) (fa : Option Addr) (fc : Nat) (h : MAo O W bm m Ce fa fc) (hI : m.ld = true → MsI m) (x : Sl) (raw : List UInt8) (hX : Dec2 W x raw) (hrl : raw.length ≤ 65536) : Calls Tryz.prog 18 #[.pointer (some ⟨bm, 0, none⟩), .slice x.a x.len x.cap] W (UpPost O W bm (MvR m raw)) := by
  obtain ⟨Q, hQ⟩ : ∃ Q, Q = UpPost O W bm (MvR m raw) := ⟨_, rfl⟩
  rw [← hQ]
  have HQ := hid_of hQ
  have HI := hid_of hI
  have HM := hid_of h
  have H8 := hid_of h8
  have HRL := hid_of hrl
  have hdec := dec_both 19 (.inr rfl) W x raw hX
  obtain ⟨xa, xn, xc⟩ := x
  dsimp only at hdec ⊢
  obtain ⟨dc, edc⟩ : ∃ dc, dc = (decF raw).1 := ⟨_, rfl⟩
  have hcd : Cd dc := by rw [edc]; exact decF_cd raw
  obtain ⟨nc, enc⟩ : ∃ nc : Nat, dc = (nc : Int) := ⟨dc.toNat, by have := hcd.1; omega⟩
  have hnc43 : nc < 43 := by have := hcd.2.1; omega
  subst enc
  have HDC := hid_of edc
  have hbmlt : bm < W.heap.size := blk_lt h.cell
  clear hQ hI h h8 hX edc hcd hrl
  go_enter Tryz.func18, Tryz.ntmps18
  go_upto_region 1 with fail
  repeat go_step
  refine hdec.mono ?_
  rintro e V2 ⟨k, ba, bn, bc, qa, qn, qc, p, sa, sn, sc, rfl, hRq, hx2⟩
  dsimp only
  rw [← HDC.out]
  clear hdec
  go_upto_region 2 with fail
  refine wp_world (fun V => V2.Extends V ∧ blk V V2.heap.size = some (reqE k ba bn bc qa qn qc p sa sn sc)) ⟨extends_alloc (ext_Ext (Ext.refl _)) _, by rw [blk_alloc, if_pos rfl]; try exact congrArg some (Request.all_set _ _)⟩ ?_
  rintro V3 ⟨hx3, hb5⟩
  obtain ⟨b5, e5⟩ : ∃ b5, b5 = V2.heap.size := ⟨_, rfl⟩
  rw [← e5] at hb5 ⊢
  obtain ⟨O3, hO3⟩ : ∃ O3, O3 = lab O W.heap.size .no := ⟨_, rfl⟩
  have hW3 : W.Extends V3 := hx2.trans hx3
  have HW3 := hid_of hW3
  have hM3 : MAo O3 V3 bm m Ce fa fc := by rw [hO3]; exact HM.out.ext hW3
  have HM3 := hid_of hM3
  have H83 : Hid (∀ k j, O3 k ≠ .a 8 j) := by rw [hO3]; exact lab_8 H8.out _
  have HRQ : Hid (RqC (core O3 V3) k ba bn bc qa qn p sa sn (decF raw).2) := reqOk_c (hRq.grow hx3) (fun b hb => by rw [hO3]; exact lab_ge hb)
  have HQU : Hid (∀ (R : List UInt8 → MS → Prop) e V, UpPost O3 V3 bm R e V → (∀ xs m', R xs m' → MvR m raw xs m') → Q e V) := fun R e V hu hR => by
    rw [HQ.out]
    exact up_up hW3 hbmlt (by rw [← hO3]; exact hu) hR
  have HQM : Hid (∀ (R : List UInt8 → Prop) e V, MvPost V3 R e V → (∀ xs, R xs → MvR m raw xs m) → Q e V) := fun R e V hu hR => by
    rw [HQ.out]
    exact up_mv HM.out hW3 hu hR
  obtain ⟨RQ, hRQ⟩ : ∃ RQ, RQ = reqE k ba bn bc qa qn qc p sa sn sc := ⟨_, rfl⟩
  have q0 : nth RQ 0 = some (.int .i64 k) := by rw [hRQ]; rfl
  have q1 : nth RQ 1 = some (.slice ba bn bc) := by rw [hRQ]; rfl
  have q2 : nth RQ 2 = some (.slice qa qn qc) := by rw [hRQ]; rfl
  have q3 : nth RQ 3 = some (.int .i64 p) := by rw [hRQ]; rfl
  have q4 : nth RQ 4 = some (.slice sa sn sc) := by rw [hRQ]; rfl
  have ql : RQ.length = 5 := by rw [hRQ]; rfl
  have l0 : 0 < RQ.length := by omega
  have l1 : 1 < RQ.length := by omega
  have l2 : 2 < RQ.length := by omega
  have l3 : 3 < RQ.length := by omega
  have l4 : 4 < RQ.length := by omega
  rw [← hRQ] at hb5
  have hbm3 : blk V3 bm = some Ce := hM3.cell
  have hcl := hM3.len
  have k0 : 0 < Ce.length := by omega
  have hld := hM3.ld
  have hbne : ¬ bm = b5 := by have := hx2.size; omega
  clear hx2 hx3 e5 hRq hRQ hO3 hW3 hM3
  by_cases hd0 : nc = 0
  rotate_left 1
  · have hr1 : ¬ (nc : Int) = 0 := by omega
    have hr2 : ((nc : Int) == 0) = false := by simp; omega
    have hr3 : ((nc : Int) != 0) = true := by simp; omega
    have hrf := refusal_any V3 nc 0 (by omega) (by decide)
    have HNX : Hid (∀ a n c V, Ob V3 V a n c [UInt8.ofNat nc, UInt8.ofNat 0] → Q (.returned (.slice a n c)) V) := fun a n c V ho => HQM.out (fun xs => xs = [UInt8.ofNat nc, UInt8.ofNat 0]) _ _ ⟨_, a, n, c, rfl, ho, rfl⟩ (fun xs e => by
      rw [e]
      refine .inl ⟨by rw [← HDC.out]; exact hr1, by rw [← HDC.out, Int.toNat_natCast], rfl⟩)
    go_wp2_with fail
    refine hrf.mono ?_
    rintro e V8 ⟨a2, n2, c2, rfl, ho2⟩
    dsimp only
    have HP := hid_of (HNX.out a2 n2 c2 V8 ho2)
    clear hrf ho2 HNX
    go_wp2_with fail
    try go_ret
    exact HP.out
  subst hd0
  have hdc0 : (decF raw).1 = 0 := HDC.out.symm
  have hwf := decF_wf HRL.out hdc0
  have hbd := decF_bd hdc0 HRL.out
  have HWF := hid_of hwf
  have HBD := hid_of hbd
  have HD0 := hid_of hdc0
  have hkk := hwf.kind
  have hke : k = (decF raw).2.kind := HRQ.out.1
  rw [← hke] at hkk
  obtain ⟨kk, ekk⟩ : ∃ kk : Nat, k = (kk : Int) := ⟨k.toNat, by omega⟩
  subst ekk
  have hk17 : 1 ≤ kk ∧ kk ≤ 7 := by omega
  have HKE := hid_of hke
  clear hwf hbd hdc0 hkk hke
  by_cases hk1 : kk = 1
  · subst hk1
    have q0' : nth RQ 0 = some (.int .i64 1) := q0
    clear q0
    obtain ⟨-, w1, w2, w3, -, -, -⟩ := HRQ.out
    have hcall := mload_any O3 V3 bm m Ce fa fc HM3.out ba bn bc (decF raw).2.blob (w1.sub (Sub.core _ _)) (by rw [← w1.1]; exact HWF.out.blob) w2 w3
    clear w1 w2 w3
    go_wp2_with fail
    refine hcall.mono ?_
    rintro e V8 hu
    have HP := hid_of (HQU.out _ _ _ hu (fun xs m' hR => .inr ⟨HD0.out, .inl ⟨HKE.out.symm, hR⟩⟩))
    obtain ⟨xs, a, n, c, m', Ce', fa', fc', rfl, -⟩ := hu
    dsimp only
    clear hcall
    go_wp2_with fail
    try go_ret
    exact HP.out
  have hkn1 : ¬ (kk : Int) = 1 := by omega
  have hkb1 : ((kk : Int) == 1) = false := by simp; omega
  have HKN : Hid ((decF raw).2.kind ≠ 1) := by rw [← HKE.out]; exact hkn1
  cases hlm : m.ld with
  | false =>
    rw [hlm] at hld
    have hrf := refusal_any V3 10 kk (by decide) (by omega)
    have HNX : Hid (∀ a n c V, Ob V3 V a n c [UInt8.ofNat 10, UInt8.ofNat kk] → Q (.returned (.slice a n c)) V) := fun a n c V ho => HQM.out (fun xs => xs = [UInt8.ofNat 10, UInt8.ofNat kk]) _ _ ⟨_, a, n, c, rfl, ho, rfl⟩ (fun xs e => by
      rw [e]
      refine .inr ⟨HD0.out, .inr (.inl ⟨HKN.out, hlm, by rw [← HKE.out, Int.toNat_natCast], rfl⟩)⟩)
    have hrf' : Calls Tryz.prog 55 #[.int .i64 10, .int .i64 (kk : Int)] V3 (EnPost V3 [UInt8.ofNat 10, UInt8.ofNat kk]) := hrf
    clear hrf hlm
    go_wp2_with fail
    refine hrf'.mono ?_
    rintro e V8 ⟨a2, n2, c2, rfl, ho2⟩
    dsimp only
    have HP := hid_of (HNX.out a2 n2 c2 V8 ho2)
    clear hrf' ho2 HNX
    go_wp2_with fail
    try go_ret
    exact HP.out
  | true =>
    rw [hlm] at hld
    have hMI := HI.out hlm
    have hMA := HM3.out.at
    have HLM := hid_of hlm
    have HOUT : Hid (∀ xs m', ((((decF raw).2.kind = 2 ∨ (decF raw).2.kind = 3 ∨ (decF raw).2.kind = 4) ∧ UpR m (decF raw).2.kind.toNat (decF raw).2.items xs m') ∨ ((decF raw).2.kind = 5 ∧ QyR m (itP (decF raw).2) (itA (decF raw).2) xs ∧ m' = m) ∨ ((decF raw).2.kind = 6 ∧ PtM m (decF raw).2.pred.toNat (decF raw).2.slots xs ∧ m' = m) ∨ ((decF raw).2.kind = 7 ∧ GrM m (decF raw).2.blob xs ∧ m' = m)) → MvR m raw xs m') := fun xs m' h9 => .inr ⟨HD0.out, .inr (.inr ⟨HKN.out, HLM.out, h9⟩)⟩
    obtain ⟨-, w1, w2, w3, w4, w5, w6⟩ := HRQ.out
    rcases (show kk = 2 ∨ kk = 3 ∨ kk = 4 ∨ kk = 5 ∨ kk = 6 ∨ kk = 7 from by omega) with hk | hk | hk | hk | hk | hk
    · subst hk
      have q0' : nth RQ 0 = some (.int .i64 2) := q0
      have HKQ : Hid ((decF raw).2.kind = 2) := HKE.out.symm
      have hcall : Calls Tryz.prog 57 #[.pointer (some ⟨bm, 0, none⟩), .int .i64 2, .slice qa qn qc] V3 (UpPost O3 V3 bm (UpR m 2 (decF raw).2.items)) := update_any O3 H83.out V3 bm m Ce fa fc HM3.out HLM.out hMI 2 (by decide) qa qn qc (decF raw).2.items w4 (by rw [← w4.len]; exact HWF.out.len) (fun it hit => ⟨(HWF.out.its it hit).2.1, (HWF.out.its it hit).1, HBD.out.1 it hit⟩)
      clear q0 w1 w2 w3 w4 w5 w6 hMI hMA hlm
      go_wp2_with fail
      refine hcall.mono ?_
      rintro e V8 hu
      have HP := hid_of (HQU.out _ _ _ hu (fun xs m' hR => HOUT.out xs m' (.inl ⟨by rw [HKQ.out]; exact .inl rfl, by rw [HKQ.out]; exact hR⟩)))
      obtain ⟨xs, a, n, c, m', Ce', fa', fc', rfl, -⟩ := hu
      dsimp only
      clear hcall
      go_wp2_with fail
      try go_ret
      exact HP.out
    · subst hk
      have q0' : nth RQ 0 = some (.int .i64 3) := q0
      have HKQ : Hid ((decF raw).2.kind = 3) := HKE.out.symm
      have hcall : Calls Tryz.prog 57 #[.pointer (some ⟨bm, 0, none⟩), .int .i64 3, .slice qa qn qc] V3 (UpPost O3 V3 bm (UpR m 3 (decF raw).2.items)) := update_any O3 H83.out V3 bm m Ce fa fc HM3.out HLM.out hMI 3 (by decide) qa qn qc (decF raw).2.items w4 (by rw [← w4.len]; exact HWF.out.len) (fun it hit => ⟨(HWF.out.its it hit).2.1, (HWF.out.its it hit).1, HBD.out.1 it hit⟩)
      clear q0 w1 w2 w3 w4 w5 w6 hMI hMA hlm
      go_wp2_with fail
      refine hcall.mono ?_
      rintro e V8 hu
      have HP := hid_of (HQU.out _ _ _ hu (fun xs m' hR => HOUT.out xs m' (.inl ⟨by rw [HKQ.out]; exact .inr (.inl rfl), by rw [HKQ.out]; exact hR⟩)))
      obtain ⟨xs, a, n, c, m', Ce', fa', fc', rfl, -⟩ := hu
      dsimp only
      clear hcall
      go_wp2_with fail
      try go_ret
      exact HP.out
    · subst hk
      have q0' : nth RQ 0 = some (.int .i64 4) := q0
      have HKQ : Hid ((decF raw).2.kind = 4) := HKE.out.symm
      have hcall : Calls Tryz.prog 57 #[.pointer (some ⟨bm, 0, none⟩), .int .i64 4, .slice qa qn qc] V3 (UpPost O3 V3 bm (UpR m 4 (decF raw).2.items)) := update_any O3 H83.out V3 bm m Ce fa fc HM3.out HLM.out hMI 4 (by decide) qa qn qc (decF raw).2.items w4 (by rw [← w4.len]; exact HWF.out.len) (fun it hit => ⟨(HWF.out.its it hit).2.1, (HWF.out.its it hit).1, HBD.out.1 it hit⟩)
      clear q0 w1 w2 w3 w4 w5 w6 hMI hMA hlm
      go_wp2_with fail
      refine hcall.mono ?_
      rintro e V8 hu
      have HP := hid_of (HQU.out _ _ _ hu (fun xs m' hR => HOUT.out xs m' (.inl ⟨by rw [HKQ.out]; exact .inr (.inr rfl), by rw [HKQ.out]; exact hR⟩)))
      obtain ⟨xs, a, n, c, m', Ce', fa', fc', rfl, -⟩ := hu
      dsimp only
      clear hcall
      go_wp2_with fail
      try go_ret
      exact HP.out
    · subst hk
      have q0' : nth RQ 0 = some (.int .i64 5) := q0
      have HKQ : Hid ((decF raw).2.kind = 5) := HKE.out.symm
      obtain ⟨pv, args, hit⟩ := HWF.out.one (.inr (.inr HKQ.out))
      have hit0 : (decF raw).2.items[0]? = some (decide ((decF raw).2.kind = 3), pv, args) := by rw [hit]; rfl
      obtain ⟨bi, Ci, aa, ac, rfl, g1, g2, g3, -, -, -, g7⟩ := its_at w4 hit0
      dsimp only at g3 g7
      have hmem : (decide ((decF raw).2.kind = 3), pv, args) ∈ (decF raw).2.items := by rw [hit]; exact List.mem_singleton.2 rfl
      have hpv := (HWF.out.its _ hmem).1
      have hpv2 := HBD.out.1 _ hmem
      have har4 := (HWF.out.its _ hmem).2.1
      dsimp only at hpv hpv2 har4
      obtain ⟨pr, epr⟩ : ∃ pr : Nat, pv = (pr : Int) := ⟨pv.toNat, by omega⟩
      subst epr
      have HIP : Hid (itP (decF raw).2 = pr ∧ itA (decF raw).2 = args) := by
        unfold itP itA
        rw [hit]
        exact ⟨Int.toNat_natCast _, rfl⟩
      have hqn : qn = 1 := by rw [← w4.len, hit]; rfl
      obtain ⟨dl, edl⟩ : ∃ dl, dl = decide ((decF raw).2.kind = 3) := ⟨_, rfl⟩
      rw [← edl] at g3
      rw [show 0 * 3 = 0 from rfl] at g2 g3
      obtain ⟨an, ean⟩ : ∃ an, an = args.length := ⟨_, rfl⟩
      rw [← ean] at g3 g7 har4
      have hcall := query_any2 V3 bm m Ce fa fc hMA HLM.out hMI dl pr (by omega) aa an ac args (g7.sub (Sub.core _ _)) har4
      obtain ⟨IE, eIE⟩ : ∃ IE, IE = itemE dl (pr : Int) aa an ac := ⟨_, rfl⟩
      rw [← eIE] at hcall g3
      have iel : IE.length = 3 := by rw [eIE]; rfl
      have hbi : blk V3 bi = some Ci := (Sub.core O3 V3) bi Ci g1
      have hci : 3 ≤ Ci.length := by omega
      have hq1 : 0 < qn := by omega
      have hq1' : (0 : Int) < (qn : Int) := by omega
      clear q0 w1 w2 w3 w4 w5 w6 hMI hMA hlm hit hit0 g1 g2 g7 hmem hpv hpv2 har4 edl ean eIE hqn
      go_wp2_with fail
      refine hcall.mono ?_
      rintro e V8 hu
      have HP := hid_of (HQM.out _ _ _ hu (fun xs hR => HOUT.out xs m (.inr (.inl ⟨HKQ.out, by rw [HIP.out.1, HIP.out.2]; exact hR, rfl⟩))))
      obtain ⟨xs, a, n, c, rfl, -⟩ := hu
      dsimp only
      clear hcall
      go_wp2_with fail
      try go_ret
      exact HP.out
    · subst hk
      have q0' : nth RQ 0 = some (.int .i64 6) := q0
      have HKQ : Hid ((decF raw).2.kind = 6) := HKE.out.symm
      have hp0 := HWF.out.pred
      have hp255 := HBD.out.2 HKQ.out
      obtain ⟨pr, epr⟩ : ∃ pr : Nat, p = (pr : Int) := ⟨p.toNat, by omega⟩
      subst epr
      have hcall := pattern_any V3 bm m Ce fa fc hMA HLM.out hMI pr (by omega) sa sn sc (decF raw).2.slots (w6.sub (Sub.core _ _)) (by rw [← w6.1]; exact HWF.out.slots)
      have HPE : Hid ((decF raw).2.pred.toNat = pr) := by show _ = _; rw [← w5, Int.toNat_natCast]
      clear q0 w1 w2 w3 w4 w5 w6 hMI hMA hlm hp0 hp255
      go_wp2_with fail
      refine hcall.mono ?_
      rintro e V8 hu
      have HP := hid_of (HQM.out _ _ _ hu (fun xs hR => HOUT.out xs m (.inr (.inr (.inl ⟨HKQ.out, by rw [HPE.out]; exact hR, rfl⟩)))))
      obtain ⟨xs, a, n, c, rfl, -⟩ := hu
      dsimp only
      clear hcall
      go_wp2_with fail
      try go_ret
      exact HP.out
    · subst hk
      have q0' : nth RQ 0 = some (.int .i64 7) := q0
      have HKQ : Hid ((decF raw).2.kind = 7) := HKE.out.symm
      have hcall := grant_any V3 bm m Ce fa fc hMA HLM.out hMI ba bn bc (by rw [← w1.1]; exact HWF.out.blob) w2 w3 (decF raw).2.blob (w1.sub (Sub.core _ _))
      clear q0 w1 w2 w3 w4 w5 w6 hMI hMA hlm
      go_wp2_with fail
      refine hcall.mono ?_
      rintro e V8 hu
      have HP := hid_of (HQM.out _ _ _ hu (fun xs hR => HOUT.out xs m (.inr (.inr (.inr ⟨HKQ.out, hR, rfl⟩)))))
      obtain ⟨xs, a, n, c, rfl, -⟩ := hu
      dsimp only
      clear hcall
      go_wp2_with fail
      try go_ret
      exact HP.out
end Go.Proofs.Qxb6500787aGreat
