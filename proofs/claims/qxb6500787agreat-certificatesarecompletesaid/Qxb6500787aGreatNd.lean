import Derived.Test.Qxb6500787aGreatNa

import Derived.StillTailTactics
import Derived.Deep.QuietTactic
import Derived.BigQuiet
import Derived.Deep.RegionHeld
import Derived.Deep.CutRange
import Derived.Laws.ResultCell
import Derived.Laws.Rows
import Derived.DeepKeys
import Derived.DataBytes
import Derived.Laws.StructEq
import Derived.Laws.AppendOwn
import Derived.Laws.MakeOwn
import Derived.Lib.AppendStr
set_option linter.unusedSimpArgs false
set_option linter.unusedVariables false
namespace Go.Proofs.Qxb6500787aGreat
open Go.RowKit Go.Blk
attribute [local go_sem ↓] execOp_load execOp_store execOp_alloc
attribute [local go_sem] Tryz.ld26 Tryz.st26 Tryz.ld27 Tryz.st27 Tryz.ld28 Tryz.st28 Tryz.ld3 Tryz.st3 Tryz.ld29 Tryz.st29 Tryz.ld44 Tryz.st44 Tryz.ld4 Tryz.st4 Tryz.ld50 Tryz.st50 Tryz.ld32 Tryz.st32 Tryz.ld49 Tryz.st49 Tryz.ld68 Tryz.st68 Tryz.ld9 Tryz.st9 Tryz.ld40 Tryz.st40 Tryz.ld138 Tryz.st138 Tryz.ld139 Tryz.st139 Tryz.ld146 Tryz.st146 Tryz.ld183 Tryz.st183 Tryz.ld184 Tryz.st184 Tryz.ld192 Tryz.st192 Tryz.ld195 Tryz.st195 Tryz.ld217 Tryz.st217 Tryz.ld159 Tryz.st159 Tryz.ld142 Tryz.st142 Tryz.ld2 Tryz.st2 Tryz.ld5 Tryz.st5 Tryz.ld12 Tryz.st12 Tryz.ld21 Tryz.st21 Tryz.ld22 Tryz.st22 Tryz.ld24 Tryz.st24 Tryz.ld58 Tryz.st58 Tryz.ld97 Tryz.st97 Tryz.ld101 Tryz.st101 Tryz.ld116 Tryz.st116 Tryz.ld121 Tryz.st121 Tryz.ld135 Tryz.st135 Tryz.ld136 Tryz.st136 Tryz.ld143 Tryz.st143 Tryz.ld148 Tryz.st148 Tryz.ld154 Tryz.st154 Tryz.ld173 Tryz.st173 Tryz.ld187 Tryz.st187 Tryz.ld222 Tryz.st222 Tryz.ld241 Tryz.st241 Tryz.ld248 Tryz.st248 Tryz.ld268 Tryz.st268 Tryz.ld272 Tryz.st272 Tryz.ld153 Tryz.st153 Tryz.ld255 Tryz.st255 Tryz.ld256 Tryz.st256 Tryz.ld129 Tryz.st129 Tryz.ld152 Tryz.st152 Tryz.ld31 Tryz.st31 Tryz.ld46 Tryz.st46 Tryz.ld52 Tryz.st52 Tryz.ld54 Tryz.st54 Tryz.ld60 Tryz.st60 Tryz.ld70 Tryz.st70 Tryz.ld74 Tryz.st74 Tryz.ld93 Tryz.st93 Tryz.ld141 Tryz.st141 Tryz.ld151 Tryz.st151 Tryz.ld170 Tryz.st170 Tryz.ld186 Tryz.st186 Tryz.ld189 Tryz.st189 Tryz.ld194 Tryz.st194 Tryz.ld197 Tryz.st197 Tryz.ld219 Tryz.st219 Tryz.ld224 Tryz.st224 Tryz.ld230 Tryz.st230 Tryz.ld235 Tryz.st235 Tryz.ld243 Tryz.st243 Tryz.ld247 Tryz.st247 Tryz.ld252 Tryz.st252 Tryz.ld258 Tryz.st258 Tryz.al153 Tryz.al255 Tryz.al256 Tryz.al129 Tryz.al152 Tryz.al31 Tryz.al46 Tryz.al52 Tryz.al54 Tryz.al60 Tryz.al70 Tryz.al74 Tryz.al93 Tryz.al141 Tryz.al151 Tryz.al170 Tryz.al186 Tryz.al189 Tryz.al194 Tryz.al197 Tryz.al219 Tryz.al224 Tryz.al230 Tryz.al235 Tryz.al243 Tryz.al247 Tryz.al252 Tryz.al258
attribute [local go_sem] Request.length_enc Request.ok_enc Request.all_get Request.all_set Request.kind_get Request.kind_set Request.blob_get Request.blob_set Request.items_get Request.items_set Request.pred_get Request.pred_set Request.slots_get Request.slots_set Trace.length_enc Trace.ok_enc Trace.all_get Trace.all_set Trace.op_get Trace.op_set Trace.calls_get Trace.calls_set Item.length_enc Item.ok_enc Item.all_get Item.all_set Item.del_get Item.del_set Item.pred_get Item.pred_set Item.args_get Item.args_set Reply.length_enc Reply.ok_enc Reply.all_get Reply.all_set Reply.code_get Reply.code_set Reply.kind_get Reply.kind_set Reply.index_get Reply.index_set Reply.yes_get Reply.yes_set Reply.preds_get Reply.preds_set Reply.rules_get Reply.rules_set Reply.arity_get Reply.arity_set Reply.rows_get Reply.rows_set Reply.fact_get Reply.fact_set Reply.fact_del_get Reply.fact_del_set Reply.fact_pred_get Reply.fact_pred_set Reply.fact_args_get Reply.fact_args_set GEntry.length_enc GEntry.ok_enc GEntry.all_get GEntry.all_set GEntry.seq_get GEntry.seq_set GEntry.kind_get GEntry.kind_set GEntry.code_get GEntry.code_set GOp.length_enc GOp.ok_enc GOp.all_get GOp.all_set GOp.kind_get GOp.kind_set GOp.raw_get GOp.raw_set Reader.length_enc Reader.ok_enc Reader.all_get Reader.all_set Reader.buf_get Reader.buf_set Reader.at__get Reader.at__set Slot.length_enc Slot.ok_enc Slot.all_get Slot.all_set Slot.bound_get Slot.bound_set Slot.name_get Slot.name_set Session.length_enc Session.ok_enc Session.all_get Session.all_set Session.svc_get Session.svc_set Session.buf_get Session.buf_set Session.closed_get Session.closed_set GProgram.length_enc GProgram.ok_enc GProgram.all_get GProgram.all_set GProgram.pool_get GProgram.pool_set GProgram.preds_get GProgram.preds_set GProgram.rules_get GProgram.rules_set GProgram.strata_get GProgram.strata_set PredInfo.length_enc PredInfo.ok_enc PredInfo.all_get PredInfo.all_set PredInfo.arity_get PredInfo.arity_set PredInfo.base_get PredInfo.base_set PredInfo.stratum_get PredInfo.stratum_set Change.length_enc Change.ok_enc Change.all_get Change.all_set Change.del_get Change.del_set Change.pred_get Change.pred_set Change.t_get Change.t_set Store.length_enc Store.ok_enc Store.all_get Store.all_set Store.names_get Store.names_set Store.arity_get Store.arity_set Store.rows_get Store.rows_set Src.length_enc Src.ok_enc Src.all_get Src.all_set Src.b_get Src.b_set Src.at__get Src.at__set Atom.length_enc Atom.ok_enc Atom.all_get Atom.all_set Atom.pred_get Atom.pred_set Atom.args_get Atom.args_set GRule.length_enc GRule.ok_enc GRule.all_get GRule.all_set GRule.head_get GRule.head_set GRule.body_get GRule.body_set GRule.head_pred_get GRule.head_pred_set GRule.head_args_get GRule.head_args_set Cert.length_enc Cert.ok_enc Cert.all_get Cert.all_set Cert.names_get Cert.names_set Cert.nodes_get Cert.nodes_set Fact.length_enc Fact.ok_enc Fact.all_get Fact.all_set Fact.pred_get Fact.pred_set Fact.t_get Fact.t_set Literal.length_enc Literal.ok_enc Literal.all_get Literal.all_set Literal.neg_get Literal.neg_set Literal.atom_get Literal.atom_set Literal.atom_pred_get Literal.atom_pred_set Literal.atom_args_get Literal.atom_args_set Engine.length_enc Engine.ok_enc Engine.all_get Engine.all_set Engine.prog_get Engine.prog_set Engine.st_get Engine.st_set SrcCertm.length_enc SrcCertm.ok_enc SrcCertm.all_get SrcCertm.all_set SrcCertm.b_get SrcCertm.b_set SrcCertm.at__get SrcCertm.at__set GNode.length_enc GNode.ok_enc GNode.all_get GNode.all_set GNode.rule_get GNode.rule_set GNode.pred_get GNode.pred_set GNode.vals_get GNode.vals_set GNode.refs_get GNode.refs_set Term.length_enc Term.ok_enc Term.all_get Term.all_set Term.var_get Term.var_set Term.n_get Term.n_set Env.length_enc Env.ok_enc Env.all_get Env.all_set Env.val_get Env.val_set Env.set_get Env.set_set
attribute [local go_sem] size_put size_ext blk_put free_put blk_alloc free_alloc blk_drew free_drew blk_ext free_ext lookOr_some putOr_some segAt_some cellAt_some storeIn_some put_put put_alloc_new length_arr ok_arr_u8 ok_arr_u32 ok_arr_u64 ok_arr_i64 ok_arr_sl cellsV_agg cellsV_int cellsV_bool cellsV_string cellsV_pointer cellsV_slice cellsV_sl ok_int ok_bool ok_string ok_pointer ok_slice ok_sl toList_arr seg_arr set_arr nth_splice nth_splice0 seg_splice seg_splice0 splice_splice splice_splice0 length_splice_if
attribute [local go_sem ↓] execOp_box
attribute [local go_sem] box_run nth_arr_u8 put_arr_u8 blk_drewN free_drewN put_drewN blk_raw free_raw
/-- "All facts of predicate p?", as the client reads the reply. -/
theorem all_reply {t : InsS} {p : Nat} (hp : p < t.p.preds.length) (hG : InG t) {q' : PRep} (h : drF (encR' (ptQ t p (frS (arP t.p p)))) = (0, q')) : q'.code = 0 ∧ (rowsAt t.R p = [] → q'.rows = []) := by
  have hcr : crF t.p p (frS (arP t.p p)).length = 0 := by
    unfold crF
    rw [if_neg (by omega), frS_len, if_neg (fun e => e (pI_ar hG.pg.pok hp).1.symm)]
  have e : ptQ t p (frS (arP t.p p)) = ⟨0, 6, -1, false, 0, 0, ((frS (arP t.p p)).length : Int), srtR ((ptRows t p (frS (arP t.p p))).map fun x => nmsT t.N x (frS (arP t.p p)).length), 0, []⟩ := by
    unfold ptQ
    rw [if_neg (fun e => e hcr)]
  rw [e] at h
  have h2 : drF (0 :: 6 :: encBd ⟨0, 6, -1, false, 0, 0, ((frS (arP t.p p)).length : Int), srtR ((ptRows t p (frS (arP t.p p))).map fun x => nmsT t.N x (frS (arP t.p p)).length), 0, []⟩) = (0, q') := h
  rw [drF_cons, if_neg (by decide), if_neg (by decide), if_pos (by decide)] at h2
  split at h2
  · rename_i h3
    have := (Prod.mk.inj h2).1
    exact absurd this h3
  split at h2
  · cases (Prod.mk.inj h2).1
  have e3 := (Prod.mk.inj h2).2
  rename_i h3 h4
  have hz := Decidable.of_not_not h3
  have h6 : (UInt8.toNat 6) = 6 := rfl
  rw [h6] at e3 hz h4
  have hbd := bdF_inv (by omega) (trip hz)
  rw [e3] at hbd
  refine ⟨hbd.1, fun hr => ?_⟩
  have hrow : (ptRows t p (frS (arP t.p p))) = [] := by
    unfold ptRows
    rw [hr]
    rfl
  rw [Decidable.of_not_not h4, List.append_nil] at hbd
  rw [hrow] at hbd
  have h7 : ∀ (ar : Int), encBd (⟨0, 6, -1, false, 0, 0, ar, srtR (([] : List Tup).map fun x => nmsT t.N x (frS (arP t.p p)).length), 0, []⟩ : PRep) = [bI ar, 0, 0] := fun ar => by
    have e0 : srtR (([] : List Tup).map fun x => nmsT t.N x (frS (arP t.p p)).length) = [] := List.length_eq_zero_iff.1 (by rw [srtR_len]; rfl)
    rw [e0]
    unfold encBd
    rw [if_neg (fun e9 => e9 rfl), if_neg (show ¬ (6 : Int) = 1 by decide), if_neg (show ¬ (6 : Int) = 5 by decide), if_pos rfl]
    simp
  rw [h7] at hbd
  have hk := hbd.2.1
  have hc := hbd.1
  have h8 := hbd.2.2.2.1
  have h9 : encBd q' = [bI q'.arity, UInt8.ofNat (q'.rows.length / 256), UInt8.ofNat (q'.rows.length % 256)] ++ q'.rows.flatMap encRow := by
    unfold encBd
    rw [if_neg (fun e9 => e9 hc), hk]
    rfl
  rw [h9] at h8
  have h10 := congrArg (List.drop 1) h8
  have h11 : [(0 : UInt8), 0] = [UInt8.ofNat (q'.rows.length / 256), UInt8.ofNat (q'.rows.length % 256)] ++ q'.rows.flatMap encRow := h10
  have a1 : (0 : UInt8) = UInt8.ofNat (q'.rows.length / 256) := (List.cons.inj h11).1
  have a2 : (0 : UInt8) = UInt8.ofNat (q'.rows.length % 256) := (List.cons.inj (List.cons.inj h11).2).1
  have b1 := congrArg UInt8.toNat a1
  have b2 := congrArg UInt8.toNat a2
  rw [UInt8.toNat_ofNat'] at b1 b2
  have hl := hbd.2.2.2.2
  have c1 : (0 : UInt8).toNat = 0 := rfl
  rw [c1] at b1 b2
  exact List.length_eq_zero_iff.1 (by omega)
attribute [local go_sem ↓] execOp_slice execOp_convert execOp_build execOp_bslice execOp_make execOp_box
attribute [local go_sem] build37p cl_len cl0
/-- The client's question for all facts of a predicate. -/
def MtPost (O : Own) (V : World) (bs : Nat) (m : Int) (s : Sv) (t : InsS) (p : Nat) (e : Ending) (V' : World) : Prop := ∃ a n c s' O' g', e = .returned (.tuple #[.slice a n c, .int .i64 0]) ∧ s'.inst = some t ∧ s'.img = s.img ∧ LS O V bs (m + 10) s' O' g' V' ∧ (rowsAt t.R p = [] → n = 0)
set_option maxRecDepth 20000 in
set_option maxHeartbeats 2000000 in
theorem cmatch_any {O : Own} {V : World} {bs : Nat} {m : Int} {s : Sv} {g : Nat} (h : LS O V bs m s O g V) (hm : 1000 ≤ m ∧ m ≤ 800000000) (bc : Nat) (hbc : blk V bc = some (clE bs)) {t : InsS} (ht : s.inst = some t) (p : Nat) (hp : p < t.p.preds.length) (ar : Nat) (har : ar = arP t.p p) (B : Nat) (sa : Option Addr) (hown : V.ownsRow B 93 2 (.slice sa ar ar) (frS ar).length ((frS ar).flatMap encL)) : Calls Tryz.prog 79 #[.pointer (some ⟨bc, 0, none⟩), .int .i64 (p : Int), .slice sa ar ar] V (MtPost O V bs m s t p) := by
  obtain ⟨Q, hQ⟩ : ∃ Q, Q = MtPost O V bs m s t p := ⟨_, rfl⟩
  rw [← hQ]
  have HQ := hid_of hQ
  have hG : InG t := h.inv.ins t ht
  have h64 := hG.pg.pok.nD
  have h4 : ar ≤ 4 := by rw [har]; exact (pI_ar hG.pg.pok hp).2
  have hca := call_any h hm bc hbc B 6 none 0 0 none 0 0 (p : Int) sa ar ar ⟨6, [], [], (p : Int), frS ar⟩ (fun W hx => ⟨rfl, ownsNil _ _ _ _, ⟨[], ownsNil _ _ _ _, ⟨rfl, fun i d it h => by simp at h⟩⟩, rfl, owns_grow hown hx⟩) 6 (encP p (frS ar)) (rqV_P (by omega) h4) (rawP p ar) rfl (by rw [rawP_len]; omega)
  have HH : Hid (s.inst = some t ∧ ar = arP t.p p ∧ ar ≤ 4 ∧ p ≤ 255 ∧ p < t.p.preds.length ∧ InG t) := ⟨ht, har, h4, by omega, hp, hG⟩
  clear hQ h ht har hG hown h4 h64 hp
  go_enter Tryz.func79, Tryz.ntmps79
  go_wp2_with fail
  refine hca.mono ?_
  rintro e V1 ⟨rep, q, q', s', O', g', rfl, hsr, hRB, hdr, hL1, hco, hro⟩
  dsimp only
  obtain ⟨k1, k2, k3, k4, k5, k6⟩ := HH.out
  obtain ⟨hq, hin, himg⟩ := svR_P k1 k4 k3 hsr
  rw [hq, k2] at hdr
  obtain ⟨hc0, hr0⟩ := all_reply k5 k6 hdr
  rw [hc0]
  obtain ⟨RE, eRE⟩ : ∃ RE, RE = Reply.enc rep := ⟨_, rfl⟩
  have rl : RE.length = 11 := by rw [eRE]; exact Reply.length_enc _
  have rok : okCells 11 RE = true := by rw [eRE]; exact Reply.ok_enc _
  have rs : splice Reply.zero.enc 0 RE = RE := by rw [eRE]; exact Reply.all_set _ _
  have rz : Reply.zero.enc.length = 11 := Reply.length_enc _
  obtain ⟨rw_, erw⟩ : ∃ x : Sl, x = rep.rows := ⟨_, rfl⟩
  obtain ⟨ra, rn, rc⟩ := rw_
  have r7 : nth RE 7 = some (.slice ra rn rc) := by rw [eRE]; show some (Sl.val rep.rows) = _; rw [← erw]; rfl
  rw [← eRE]
  have HP : Hid (∀ V2, V1.Extends V2 → Q (.returned (.tuple #[.slice ra rn rc, .int .i64 0])) V2) := fun V2 hx => by
    rw [HQ.out]
    refine ⟨ra, rn, rc, s', _, g', rfl, hin, himg, hL1.grow hx, fun h0 => ?_⟩
    have h9 := hr0 h0
    rw [h9, ← erw] at hro
    exact hro
  clear hca hsr hRB hdr hL1 hco hro hq hin himg hc0 hr0 eRE erw k1 k2 k3 k4 k5 k6 HH HQ
  go_wp2_with fail
  try go_ret
  refine HP.out _ ?_
  exact extends_alloc (ext_Ext (Ext.refl _)) _
theorem eql44n (w : World) (b n c : Nat) : (binOp .eql 44 (.slice (some ⟨b, 0, none⟩) n c) (.slice none 0 0)).run Tryz.prog w = .ok (.bool false) w := by kernel_rfl
attribute [local go_sem] eql44n
set_option maxRecDepth 20000 in
set_option maxHeartbeats 2000000 in
theorem all_any {O : Own} {V : World} {bs : Nat} {m : Int} {s : Sv} {g : Nat} (h : LS O V bs m s O g V) (hm : 1000 ≤ m ∧ m ≤ 800000000) (bc : Nat) (hbc : blk V bc = some (clE bs)) {t : InsS} (ht : s.inst = some t) (p : Nat) (hp : p < t.p.preds.length) : Calls Tryz.prog 30 #[.pointer (some ⟨bc, 0, none⟩), .int .i64 (p : Int)] V (MtPost O V bs m s t p) := by
  obtain ⟨Q, hQ⟩ : ∃ Q, Q = MtPost O V bs m s t p := ⟨_, rfl⟩
  rw [← hQ]
  have HQ := hid_of hQ
  have hG : InG t := h.inv.ins t ht
  have h64 := hG.pg.pok.nD
  have hpr := predicates_any h.sv (fun t ht => (h.inv.ins t ht).pg.pok.nD)
  have epr : prF s = t.p.preds := by unfold prF; rw [ht]
  rw [epr] at hpr
  obtain ⟨har, har4⟩ := pI_ar hG.pg.pok hp
  have HLS := hid_of h
  have HT : Hid (s.inst = some t ∧ p < t.p.preds.length) := ⟨ht, hp⟩
  obtain ⟨N, hN⟩ : ∃ N, N = t.p.preds.length := ⟨_, rfl⟩
  have HN := hid_of hN
  have hpN : ¬ (N : Int) ≤ (p : Int) := by omega
  have hpN2 : ((p : Int)) < (N : Int) := by omega
  have hp0 : ¬ (p : Int) < 0 := by omega
  have hp1 : (0 : Int) ≤ (p : Int) := by omega
  have hp2 : ((p : Int)).toNat = p := by omega
  obtain ⟨ar, ear⟩ : ∃ ar, ar = arP t.p p := ⟨_, rfl⟩
  have HAR := hid_of ear
  rw [← ear] at har har4
  have hmk : ∀ w, (makeOp 35 (.int .i64 (ar : Int)) (.int .i64 (ar : Int))).run Tryz.prog w = .ok (.value (.slice (some ⟨w.heap.size, 0, none⟩) ar ar)) (w.alloc (.cells (madeCells Slot.zero.enc.toArray (ar * 2)) 93)) := fun w => make35 w ar (by omega)
  have HH : Hid (pI t.p p = pI t.p p ∧ (pI t.p p).arity = (ar : Int)) := ⟨rfl, har⟩
  have HBC := hid_of hbc
  clear hQ h ht hp hG har ear hN epr
  go_enter Tryz.func30, Tryz.ntmps30
  go_wp2_with fail
  refine hpr.mono ?_
  rintro e V1 ⟨ta, tc, rfl, hO⟩
  dsimp only
  have hat := (rw_own PredInfo.length_enc hO.1).1
  obtain ⟨b, C, rfl, hb, hCl, hsg⟩ := hat.2 p _ (pI_at HT.out.2)
  have hc0 : nth C (p * 3) = some (.int .i64 (ar : Int)) := by
    have h9 := nth_in (j := 0) hsg (show nth (PredInfo.enc (pI t.p p)) 0 = some (.int .i64 (pI t.p p).arity) from rfl) (by omega)
    rw [HH.out.2] at h9
    exact h9
  have hC3 : p * 3 < C.length := by
    have h9 := HN.out
    have : (p + 1) * 3 ≤ N * 3 := Nat.mul_le_mul_right _ (by omega)
    rw [← h9] at hCl
    omega
  rw [← HN.out]
  have hL1 := HLS.out.grow hO.2.1
  have hx1 : V1.Extends (V1.alloc (.cells (madeCells Slot.zero.enc.toArray (ar * 2)) 93)) := extends_alloc (ext_Ext (Ext.refl _)) _
  have hL2 := hL1.grow hx1
  have hbc2 : blk (V1.alloc (.cells (madeCells Slot.zero.enc.toArray (ar * 2)) 93)) bc = some (clE bs) := ((hO.2.1.trans hx1).blk (blk_lt HBC.out)).trans HBC.out
  have hma := cmatch_any hL2.self hm bc hbc2 HT.out.1 p HT.out.2 ar HAR.out V1.heap.size (some ⟨V1.heap.size, 0, none⟩) (made_fr V1 ar har4)
  have HK := hid_of hL2.kp
  obtain ⟨MC, hMC⟩ : ∃ MC, MC = madeCells Slot.zero.enc.toArray (ar * 2) := ⟨_, rfl⟩
  rw [← hMC] at hma HK
  simp only [← hMC] at hmk
  have hbC := hb
  clear hat hO hsg hL1 hL2 hbc2 hMC hx1 hpr HBC
  go_wp2_with fail
  refine hma.mono ?_
  rintro e V2 ⟨a, n, c, s', O', g', rfl, k1, k2, k3, k4⟩
  dsimp only
  have HP : Hid (Q (.returned (.tuple #[.slice a n c, .int .i64 0])) V2) := by
    show Q _ _
    rw [HQ.out]
    exact ⟨a, n, c, s', O', g', rfl, k1, k2, ⟨HK.out.trans k3.kp, k3.sv, k3.fr, k3.lo, k3.inv⟩, k4⟩
  clear hma k1 k2 k3 k4 HQ
  go_wp2_with fail
  try go_ret
  exact HP.out
end Go.Proofs.Qxb6500787aGreat
