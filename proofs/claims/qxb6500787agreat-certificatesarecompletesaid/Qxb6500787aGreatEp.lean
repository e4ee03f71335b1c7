import Derived.Test.Qxb6500787aGreatEo
import Derived.Test.Qxb6500787aGreatPj

import Derived.StillTailTactics
import Derived.Deep.QuietTactic
import Derived.BigQuiet
import Derived.Deep.RegionHeld
import Derived.Deep.CutRange
import Derived.Laws.ResultCell
import Derived.Laws.Rows
import Derived.DeepKeys
import Derived.DataBytes
import Derived.Laws.StructEq
import Derived.Laws.AppendOwn
import Derived.Laws.MakeOwn
import Derived.Lib.AppendStr
set_option linter.unusedSimpArgs false
set_option linter.unusedVariables false
namespace Go.Proofs.Qxb6500787aGreat
open Go.RowKit Go.Blk
attribute [local go_sem ↓] execOp_load execOp_store execOp_alloc
attribute [local go_sem] Tryz.ld26 Tryz.st26 Tryz.ld27 Tryz.st27 Tryz.ld28 Tryz.st28 Tryz.ld3 Tryz.st3 Tryz.ld29 Tryz.st29 Tryz.ld44 Tryz.st44 Tryz.ld4 Tryz.st4 Tryz.ld50 Tryz.st50 Tryz.ld32 Tryz.st32 Tryz.ld49 Tryz.st49 Tryz.ld68 Tryz.st68 Tryz.ld9 Tryz.st9 Tryz.ld40 Tryz.st40 Tryz.ld138 Tryz.st138 Tryz.ld139 Tryz.st139 Tryz.ld146 Tryz.st146 Tryz.ld183 Tryz.st183 Tryz.ld184 Tryz.st184 Tryz.ld192 Tryz.st192 Tryz.ld195 Tryz.st195 Tryz.ld217 Tryz.st217 Tryz.ld159 Tryz.st159 Tryz.ld142 Tryz.st142 Tryz.ld2 Tryz.st2 Tryz.ld5 Tryz.st5 Tryz.ld12 Tryz.st12 Tryz.ld21 Tryz.st21 Tryz.ld22 Tryz.st22 Tryz.ld24 Tryz.st24 Tryz.ld58 Tryz.st58 Tryz.ld97 Tryz.st97 Tryz.ld101 Tryz.st101 Tryz.ld116 Tryz.st116 Tryz.ld121 Tryz.st121 Tryz.ld135 Tryz.st135 Tryz.ld136 Tryz.st136 Tryz.ld143 Tryz.st143 Tryz.ld148 Tryz.st148 Tryz.ld154 Tryz.st154 Tryz.ld173 Tryz.st173 Tryz.ld187 Tryz.st187 Tryz.ld222 Tryz.st222 Tryz.ld241 Tryz.st241 Tryz.ld248 Tryz.st248 Tryz.ld268 Tryz.st268 Tryz.ld272 Tryz.st272 Tryz.ld153 Tryz.st153 Tryz.ld255 Tryz.st255 Tryz.ld256 Tryz.st256 Tryz.ld129 Tryz.st129 Tryz.ld152 Tryz.st152 Tryz.ld31 Tryz.st31 Tryz.ld46 Tryz.st46 Tryz.ld52 Tryz.st52 Tryz.ld54 Tryz.st54 Tryz.ld60 Tryz.st60 Tryz.ld70 Tryz.st70 Tryz.ld74 Tryz.st74 Tryz.ld93 Tryz.st93 Tryz.ld141 Tryz.st141 Tryz.ld151 Tryz.st151 Tryz.ld170 Tryz.st170 Tryz.ld186 Tryz.st186 Tryz.ld189 Tryz.st189 Tryz.ld194 Tryz.st194 Tryz.ld197 Tryz.st197 Tryz.ld219 Tryz.st219 Tryz.ld224 Tryz.st224 Tryz.ld230 Tryz.st230 Tryz.ld235 Tryz.st235 Tryz.ld243 Tryz.st243 Tryz.ld247 Tryz.st247 Tryz.ld252 Tryz.st252 Tryz.ld258 Tryz.st258 Tryz.al153 Tryz.al255 Tryz.al256 Tryz.al129 Tryz.al152 Tryz.al31 Tryz.al46 Tryz.al52 Tryz.al54 Tryz.al60 Tryz.al70 Tryz.al74 Tryz.al93 Tryz.al141 Tryz.al151 Tryz.al170 Tryz.al186 Tryz.al189 Tryz.al194 Tryz.al197 Tryz.al219 Tryz.al224 Tryz.al230 Tryz.al235 Tryz.al243 Tryz.al247 Tryz.al252 Tryz.al258
attribute [local go_sem] Request.length_enc Request.ok_enc Request.all_get Request.all_set Request.kind_get Request.kind_set Request.blob_get Request.blob_set Request.items_get Request.items_set Request.pred_get Request.pred_set Request.slots_get Request.slots_set Trace.length_enc Trace.ok_enc Trace.all_get Trace.all_set Trace.op_get Trace.op_set Trace.calls_get Trace.calls_set Item.length_enc Item.ok_enc Item.all_get Item.all_set Item.del_get Item.del_set Item.pred_get Item.pred_set Item.args_get Item.args_set Reply.length_enc Reply.ok_enc Reply.all_get Reply.all_set Reply.code_get Reply.code_set Reply.kind_get Reply.kind_set Reply.index_get Reply.index_set Reply.yes_get Reply.yes_set Reply.preds_get Reply.preds_set Reply.rules_get Reply.rules_set Reply.arity_get Reply.arity_set Reply.rows_get Reply.rows_set Reply.fact_get Reply.fact_set Reply.fact_del_get Reply.fact_del_set Reply.fact_pred_get Reply.fact_pred_set Reply.fact_args_get Reply.fact_args_set GEntry.length_enc GEntry.ok_enc GEntry.all_get GEntry.all_set GEntry.seq_get GEntry.seq_set GEntry.kind_get GEntry.kind_set GEntry.code_get GEntry.code_set GOp.length_enc GOp.ok_enc GOp.all_get GOp.all_set GOp.kind_get GOp.kind_set GOp.raw_get GOp.raw_set Reader.length_enc Reader.ok_enc Reader.all_get Reader.all_set Reader.buf_get Reader.buf_set Reader.at__get Reader.at__set Slot.length_enc Slot.ok_enc Slot.all_get Slot.all_set Slot.bound_get Slot.bound_set Slot.name_get Slot.name_set Session.length_enc Session.ok_enc Session.all_get Session.all_set Session.svc_get Session.svc_set Session.buf_get Session.buf_set Session.closed_get Session.closed_set GProgram.length_enc GProgram.ok_enc GProgram.all_get GProgram.all_set GProgram.pool_get GProgram.pool_set GProgram.preds_get GProgram.preds_set GProgram.rules_get GProgram.rules_set GProgram.strata_get GProgram.strata_set PredInfo.length_enc PredInfo.ok_enc PredInfo.all_get PredInfo.all_set PredInfo.arity_get PredInfo.arity_set PredInfo.base_get PredInfo.base_set PredInfo.stratum_get PredInfo.stratum_set Change.length_enc Change.ok_enc Change.all_get Change.all_set Change.del_get Change.del_set Change.pred_get Change.pred_set Change.t_get Change.t_set Store.length_enc Store.ok_enc Store.all_get Store.all_set Store.names_get Store.names_set Store.arity_get Store.arity_set Store.rows_get Store.rows_set Src.length_enc Src.ok_enc Src.all_get Src.all_set Src.b_get Src.b_set Src.at__get Src.at__set Atom.length_enc Atom.ok_enc Atom.all_get Atom.all_set Atom.pred_get Atom.pred_set Atom.args_get Atom.args_set GRule.length_enc GRule.ok_enc GRule.all_get GRule.all_set GRule.head_get GRule.head_set GRule.body_get GRule.body_set GRule.head_pred_get GRule.head_pred_set GRule.head_args_get GRule.head_args_set Cert.length_enc Cert.ok_enc Cert.all_get Cert.all_set Cert.names_get Cert.names_set Cert.nodes_get Cert.nodes_set Fact.length_enc Fact.ok_enc Fact.all_get Fact.all_set Fact.pred_get Fact.pred_set Fact.t_get Fact.t_set Literal.length_enc Literal.ok_enc Literal.all_get Literal.all_set Literal.neg_get Literal.neg_set Literal.atom_get Literal.atom_set Literal.atom_pred_get Literal.atom_pred_set Literal.atom_args_get Literal.atom_args_set Engine.length_enc Engine.ok_enc Engine.all_get Engine.all_set Engine.prog_get Engine.prog_set Engine.st_get Engine.st_set SrcCertm.length_enc SrcCertm.ok_enc SrcCertm.all_get SrcCertm.all_set SrcCertm.b_get SrcCertm.b_set SrcCertm.at__get SrcCertm.at__set GNode.length_enc GNode.ok_enc GNode.all_get GNode.all_set GNode.rule_get GNode.rule_set GNode.pred_get GNode.pred_set GNode.vals_get GNode.vals_set GNode.refs_get GNode.refs_set Term.length_enc Term.ok_enc Term.all_get Term.all_set Term.var_get Term.var_set Term.n_get Term.n_set Env.length_enc Env.ok_enc Env.all_get Env.all_set Env.val_get Env.val_set Env.set_get Env.set_set
attribute [local go_sem] size_put size_ext blk_put free_put blk_alloc free_alloc blk_drew free_drew blk_ext free_ext lookOr_some putOr_some segAt_some cellAt_some storeIn_some put_put put_alloc_new length_arr ok_arr_u8 ok_arr_u32 ok_arr_u64 ok_arr_i64 ok_arr_sl cellsV_agg cellsV_int cellsV_bool cellsV_string cellsV_pointer cellsV_slice cellsV_sl ok_int ok_bool ok_string ok_pointer ok_slice ok_sl toList_arr seg_arr set_arr nth_splice nth_splice0 seg_splice seg_splice0 splice_splice splice_splice0 length_splice_if
attribute [local go_sem ↓] execOp_box
attribute [local go_sem] box_run nth_arr_u8 put_arr_u8 blk_drewN free_drewN put_drewN blk_raw free_raw

def zSo (W : World) (bm : Nat) (v1 : Value) (N : Nat) (p : PP) (L : List It) (f : Nat → Value) (V : World) : Prop := f 0 = .pointer (some ⟨bm, 2, none⟩) ∧ f 1 = v1 ∧ ∃ i : Nat, i ≤ N ∧ f 5 = .int .i64 (i : Nat) ∧ Hid ((∃ j, V = W.drewN j) ∧ ckL p L 0 = ckL p (L.drop i) i)
set_option maxRecDepth 100000 in
theorem zframe57 (f : Nat → Value) : frameN 57 f = #[f 0, f 1, f 2, f 3, f 4, f 5, f 6, f 7, f 8, f 9, f 10, f 11, f 12, f 13, f 14, f 15, f 16, f 17, f 18, f 19, f 20, f 21, f 22, f 23, f 24, f 25, f 26, f 27, f 28, f 29, f 30, f 31, f 32, f 33, f 34, f 35, f 36, f 37, f 38, f 39, f 40, f 41, f 42, f 43, f 44, f 45, f 46, f 47, f 48, f 49, f 50, f 51, f 52, f 53, f 54, f 55, f 56] := by kernel_rfl
set_option maxRecDepth 40000 in
set_option maxHeartbeats 1000000 in
theorem static_any (W : World) (bm : Nat) (m : MS) (Ce : List Value) (fa : Option Addr) (fc : Nat) (h : MAt W bm m Ce fa fc) (hl : m.ld = true) (hI : MsI m) (ia : Option Addr) (iN ic : Nat) (L : List It) (hIt : ItsC W ia iN L) (hin : iN ≤ 255) (h4 : ∀ it ∈ L, it.2.2.length ≤ 4 ∧ 0 ≤ it.2.1 ∧ it.2.1 ≤ 255) : Calls Tryz.prog 37 #[.pointer (some ⟨bm, 2, none⟩), .slice ia iN ic] W fun e V => e = .returned (.bool (decide (ckL m.p L 0 = none))) ∧ ∃ k, V = W.drewN k := by
  obtain ⟨da, dc, c3, hPr⟩ := h.preds hl
  have k3 : 3 < Ce.length := by rw [h.len]; omega
  have HM := hid_of h
  have HI := hid_of hI
  obtain ⟨KD, hKD, hKL, hKI⟩ := hIt
  have HKD : Hid (Rw encD 3 W ia iN KD) := hKD
  have HKI := hid_of hKI
  have HLN : Hid (L.length = iN) := hKL.symm.trans hKD.1
  obtain ⟨fn, eN⟩ : ∃ N, N = m.p.preds.length := ⟨_, rfl⟩
  have hN64 : fn ≤ 64 := by rw [eN]; exact hI.pg.g.pok.nD
  rw [← eN] at c3 hPr
  have HN := hid_of eN
  have HPR := hid_of hPr
  have H4 := hid_of h4
  clear h hI eN hPr hl h4 hKD hKI hKL
  go_enter Tryz.func37, Tryz.ntmps37
  go_wp2_with fail
  refine wp_loop_f 57 (zSo W bm (.slice ia iN ic) iN m.p L) (fun f _ => iN - (intOf (f 5)).toNat) rfl ⟨rfl, rfl, 0, by omega, rfl, ⟨⟨0, rfl⟩, rfl⟩⟩ ?_
  intro G V hrel
  obtain ⟨f0, f1, i, hi, f5, HJ⟩ := hrel
  have H5 := hid_of f5
  rw [zframe57, f0, f1, f5]
  clear f0 f1 f5
  obtain ⟨⟨jV, hjV⟩, hck⟩ := HJ.out
  have HCK0 := hid_of hck
  have HXV : Hid (W.Extends V) := by
    show World.Extends _ _
    rw [hjV]; exact extends_drewN (ext_Ext (Ext.refl _)) jV
  have hbm : blk V bm = some Ce := (HXV.out.blk (blk_lt HM.out.cell)).trans HM.out.cell
  have HVJ : Hid (∀ q, ∃ j, V.drewN q = W.drewN j) := fun q => ⟨_, by rw [hjV, World.drewN_drewN]⟩
  have HV0 : Hid (∃ j, V = W.drewN j) := ⟨jV, hjV⟩
  clear HJ hck hjV
  by_cases hii : i < iN
  rotate_left 1
  · have hii' : ¬ (i : Int) < (iN : Int) := by omega
    have HCN : Hid (ckL m.p L 0 = none) := by
      show _ = _
      rw [HCK0.out, List.drop_eq_nil_of_le (by have := HLN.out; omega)]; rfl
    clear HCK0
    go_wp2_with fail
    go_ret
    exact ⟨by rw [decide_eq_true HCN.out]; rfl, HV0.out⟩
  have hii' : (i : Int) < (iN : Int) := by omega
  have i0 : (0 : Int) ≤ (i : Int) := by omega
  have i2 : ((i : Int)).toNat = i := by omega
  obtain ⟨it, hit⟩ : ∃ x, L[i]? = some x := ⟨_, List.getElem?_eq_getElem (by have := HLN.out; omega)⟩
  obtain ⟨d, hd⟩ : ∃ x, KD[i]? = some x := ⟨_, List.getElem?_eq_getElem (by have := HKD.out.1; omega)⟩
  obtain ⟨bi, Ci, rfl, g1, g2, g3⟩ := HKD.out.2 i d hd
  obtain ⟨hd1, hd2, hd3⟩ := HKI.out i d it hd hit
  obtain ⟨dd, dp, dA, dn, dC⟩ := d
  dsimp only at hd1 hd2 hd3
  obtain ⟨h4a, h4b, h4c⟩ := H4.out it (List.mem_of_getElem? hit)
  obtain ⟨q, hq⟩ : ∃ q : Nat, it.2.1 = (q : Int) := ⟨it.2.1.toNat, by omega⟩
  rw [hq] at hd2
  subst hd2
  have hdn : it.2.2.length = dn := hd3.1
  have m1 : nth Ci (i * 3 + 1) = some (.int .i64 (q : Int)) := nth_in (j := 1) g3 rfl (by omega)
  have m2 : nth Ci (i * 3 + 2) = some (.slice dA dn dC) := nth_in (j := 2) g3 rfl (by omega)
  have l9 : (i + 1) * 3 ≤ iN * 3 := Nat.mul_le_mul_right _ hii
  have l0 : i * 3 < Ci.length := by omega
  have l1 : i * 3 + 1 < Ci.length := by omega
  have l2 : i * 3 + 2 < Ci.length := by omega
  have hbi : blk V bi = some Ci := (HXV.out.blk (blk_lt g1)).trans g1
  have HCK : Hid (ckL m.p L 0 = if cuF m.p q dn ≠ 0 then some (cuF m.p q dn, i) else ckL m.p (L.drop (i + 1)) (i + 1)) := by
    show _ = _
    rw [HCK0.out, dropA_at hit, ckL_cons, hq, Int.toNat_natCast, hdn]
  have q0 : (0 : Int) ≤ (q : Int) := by omega
  have q2 : ((q : Int)).toNat = q := by omega
  clear g1 g2 g3 hd hit hd1 hd3 hq hdn h4a h4b h4c l9 HCK0 HV0
  by_cases hqn : q < fn
  rotate_left 1
  · have hp1 : ¬ (q : Int) < (fn : Int) := by omega
    have hp2 : (fn : Int) ≤ (q : Int) := by omega
    have hp3 : fn ≤ q := by omega
    have hcu : cuF m.p q dn = 11 := by unfold cuF; rw [if_pos (by rw [← HN.out]; exact hp3)]
    have HCU := hid_of hcu
    clear hcu
    go_upto_region 4 with fail
    go_quiet (fail)
    have HP : Hid (ckL m.p L 0 ≠ none) := by
      show _ ≠ _
      rw [HCK.out, HCU.out, if_pos (by decide)]
      simp
    have HVE := HVJ
    clear HCK HVJ
    go_wp2_with fail
    try go_ret
    refine ⟨by rw [decide_eq_false HP.out]; rfl, ?_⟩
    first | exact HVE.out _ | exact HVE.out nq
  have hp1 : (q : Int) < (fn : Int) := by omega
  have hp2 : ¬ (fn : Int) ≤ (q : Int) := by omega
  have hp3 : ¬ fn ≤ q := by omega
  obtain ⟨bd, Cd, rfl, y1, y2, y3⟩ := HPR.out.2 q _ (pI_at (by rw [← HN.out]; exact hqn))
  obtain ⟨har, har4⟩ := pI_ar HI.out.pg.g.pok (q := q) (by rw [← HN.out]; exact hqn)
  obtain ⟨ar, ear⟩ : ∃ ar, ar = arP m.p q := ⟨_, rfl⟩
  rw [← ear] at har har4
  obtain ⟨bb, ebb⟩ : ∃ bb, bb = (pI m.p q).base := ⟨_, rfl⟩
  have n0 : nth Cd (q * 3) = some (.int .i64 (ar : Int)) := by
    have h9 := nth_in (j := 0) y3 (show nth (PredInfo.enc (pI m.p q)) 0 = some (.int .i64 (pI m.p q).arity) from rfl) (by omega)
    rw [har] at h9
    exact h9
  have n1 : nth Cd (q * 3 + 1) = some (.bool bb) := by
    rw [ebb]
    exact nth_in (j := 1) y3 (show nth (PredInfo.enc (pI m.p q)) 1 = some (.bool (pI m.p q).base) from rfl) (by omega)
  have l9 : (q + 1) * 3 ≤ fn * 3 := Nat.mul_le_mul_right _ hqn
  have l3 : q * 3 < Cd.length := by omega
  have l4 : q * 3 + 1 < Cd.length := by omega
  have hbd : blk V bd = some Cd := (HXV.out.blk (blk_lt y1)).trans y1
  have HCU : Hid (cuF m.p q dn = if bb = false then 12 else if (dn : Int) ≠ (ar : Int) then 13 else 0) := by
    show _ = _
    unfold cuF
    rw [if_neg (by rw [← HN.out]; exact hp3), har, ebb]
  clear y1 y2 y3 har ear ebb l9
  go_upto_region 4 with fail
  cases bb with
  | false =>
    go_quiet (fail)
    have HP : Hid (ckL m.p L 0 ≠ none) := by
      show _ ≠ _
      rw [HCK.out, HCU.out]
      simp
    have HVE := HVJ
    clear HCK HVJ
    go_wp2_with fail
    try go_ret
    refine ⟨by rw [decide_eq_false HP.out]; rfl, ?_⟩
    first | exact HVE.out _ | exact HVE.out nq
  | true =>
    go_quiet (fail)
    obtain ⟨V2, hV2⟩ : ∃ Z, Z = V.drewN nq := ⟨_, rfl⟩
    rw [← hV2]
    have hbm_ : blk V2 bm = some Ce := by rw [hV2]; exact hbm
    clear hbm
    have hbm := hbm_
    clear hbm_
    have hbi_ : blk V2 bi = some Ci := by rw [hV2]; exact hbi
    clear hbi
    have hbi := hbi_
    clear hbi_
    have hbd_ : blk V2 bd = some Cd := by rw [hV2]; exact hbd
    clear hbd
    have hbd := hbd_
    clear hbd_
    have HXV2 : Hid (W.Extends V2) := by show World.Extends _ _; rw [hV2]; exact extends_drewN HXV.out _
    have HVJ2 : Hid (∀ q, ∃ j, V2.drewN q = W.drewN j) := fun q => by obtain ⟨j, hj⟩ := HVJ.out (nq + q); exact ⟨j, by rw [hV2, World.drewN_drewN]; exact hj⟩
    clear hV2 HXV HVJ
    have HXV := HXV2
    have HVJ := HVJ2
    clear nq
    go_upto_region 6 with fail
    by_cases hra : dn = ar
    rotate_left 1
    · have hr1 : ¬ (dn : Int) = (ar : Int) := by omega
      have hr2 : ((dn : Int) == (ar : Int)) = false := by simp; omega
      have hr3 : ((dn : Int) != (ar : Int)) = true := by simp; omega
      have HCU2 : Hid (cuF m.p q dn = 13) := by show _ = _; rw [HCU.out, if_neg (by decide), if_pos hr1]
      go_quiet (fail)
      have HP : Hid (ckL m.p L 0 ≠ none) := by
        show _ ≠ _
        rw [HCK.out, HCU2.out, if_pos (by decide)]
        simp
      have HVE := HVJ
      clear HCK HVJ
      go_wp2_with fail
      try go_ret
      refine ⟨by rw [decide_eq_false HP.out]; rfl, ?_⟩
      first | exact HVE.out _ | exact HVE.out nq
    subst hra
    have HCU2 : Hid (cuF m.p q dn = 0) := by show _ = _; rw [HCU.out, if_neg (by decide), if_neg (fun e => e rfl)]
    go_quiet (fail)
    have HJ : Hid ((∃ j, V2.drewN nq = W.drewN j) ∧ ckL m.p L 0 = ckL m.p (L.drop (i + 1)) (i + 1)) := ⟨HVJ.out nq, by rw [HCK.out, HCU2.out, if_neg (fun e => e rfl)]⟩
    clear HVJ HCK HCU HCU2
    go_wp2_with fail
    refine ⟨rfl, rfl, ⟨rfl, rfl, i + 1, by omega, ?_, HJ⟩, ?_⟩
    · show Value.int .i64 _ = _
      go_num
    · show iN - (intOf (Value.int .i64 _)).toNat < iN - (intOf (G 5)).toNat
      rw [H5.out]
      simp [intOf]; omega
end Go.Proofs.Qxb6500787aGreat
