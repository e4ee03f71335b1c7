import Derived.Test.Qxb6500787aGreatGi
import Derived.Test.Qxb6500787aGreatGp
import Derived.Test.Qxb6500787aGreatGr
import Derived.Test.Qxb6500787aGreatGg
import Derived.Test.Qxb6500787aGreatEm
import Derived.Test.Qxb6500787aGreatFf

import Derived.StillTailTactics
import Derived.Deep.QuietTactic
import Derived.BigQuiet
import Derived.Deep.RegionHeld
import Derived.Deep.CutRange
import Derived.Laws.ResultCell
import Derived.Laws.Rows
import Derived.DeepKeys
import Derived.DataBytes
import Derived.Laws.StructEq
import Derived.Laws.AppendOwn
import Derived.Laws.MakeOwn
import Derived.Lib.AppendStr
set_option linter.unusedSimpArgs false
set_option linter.unusedVariables false
namespace Go.Proofs.Qxb6500787aGreat
open Go.RowKit Go.Blk
attribute [local go_sem ↓] execOp_load execOp_store execOp_alloc
attribute [local go_sem] Tryz.ld26 Tryz.st26 Tryz.ld27 Tryz.st27 Tryz.ld28 Tryz.st28 Tryz.ld3 Tryz.st3 Tryz.ld29 Tryz.st29 Tryz.ld44 Tryz.st44 Tryz.ld4 Tryz.st4 Tryz.ld50 Tryz.st50 Tryz.ld32 Tryz.st32 Tryz.ld49 Tryz.st49 Tryz.ld68 Tryz.st68 Tryz.ld9 Tryz.st9 Tryz.ld40 Tryz.st40 Tryz.ld138 Tryz.st138 Tryz.ld139 Tryz.st139 Tryz.ld146 Tryz.st146 Tryz.ld183 Tryz.st183 Tryz.ld184 Tryz.st184 Tryz.ld192 Tryz.st192 Tryz.ld195 Tryz.st195 Tryz.ld217 Tryz.st217 Tryz.ld159 Tryz.st159 Tryz.ld142 Tryz.st142 Tryz.ld2 Tryz.st2 Tryz.ld5 Tryz.st5 Tryz.ld12 Tryz.st12 Tryz.ld21 Tryz.st21 Tryz.ld22 Tryz.st22 Tryz.ld24 Tryz.st24 Tryz.ld58 Tryz.st58 Tryz.ld97 Tryz.st97 Tryz.ld101 Tryz.st101 Tryz.ld116 Tryz.st116 Tryz.ld121 Tryz.st121 Tryz.ld135 Tryz.st135 Tryz.ld136 Tryz.st136 Tryz.ld143 Tryz.st143 Tryz.ld148 Tryz.st148 Tryz.ld154 Tryz.st154 Tryz.ld173 Tryz.st173 Tryz.ld187 Tryz.st187 Tryz.ld222 Tryz.st222 Tryz.ld241 Tryz.st241 Tryz.ld248 Tryz.st248 Tryz.ld268 Tryz.st268 Tryz.ld272 Tryz.st272 Tryz.ld153 Tryz.st153 Tryz.ld255 Tryz.st255 Tryz.ld256 Tryz.st256 Tryz.ld129 Tryz.st129 Tryz.ld152 Tryz.st152 Tryz.ld31 Tryz.st31 Tryz.ld46 Tryz.st46 Tryz.ld52 Tryz.st52 Tryz.ld54 Tryz.st54 Tryz.ld60 Tryz.st60 Tryz.ld70 Tryz.st70 Tryz.ld74 Tryz.st74 Tryz.ld93 Tryz.st93 Tryz.ld141 Tryz.st141 Tryz.ld151 Tryz.st151 Tryz.ld170 Tryz.st170 Tryz.ld186 Tryz.st186 Tryz.ld189 Tryz.st189 Tryz.ld194 Tryz.st194 Tryz.ld197 Tryz.st197 Tryz.ld219 Tryz.st219 Tryz.ld224 Tryz.st224 Tryz.ld230 Tryz.st230 Tryz.ld235 Tryz.st235 Tryz.ld243 Tryz.st243 Tryz.ld247 Tryz.st247 Tryz.ld252 Tryz.st252 Tryz.ld258 Tryz.st258 Tryz.al153 Tryz.al255 Tryz.al256 Tryz.al129 Tryz.al152 Tryz.al31 Tryz.al46 Tryz.al52 Tryz.al54 Tryz.al60 Tryz.al70 Tryz.al74 Tryz.al93 Tryz.al141 Tryz.al151 Tryz.al170 Tryz.al186 Tryz.al189 Tryz.al194 Tryz.al197 Tryz.al219 Tryz.al224 Tryz.al230 Tryz.al235 Tryz.al243 Tryz.al247 Tryz.al252 Tryz.al258
attribute [local go_sem] Request.length_enc Request.ok_enc Request.all_get Request.all_set Request.kind_get Request.kind_set Request.blob_get Request.blob_set Request.items_get Request.items_set Request.pred_get Request.pred_set Request.slots_get Request.slots_set Trace.length_enc Trace.ok_enc Trace.all_get Trace.all_set Trace.op_get Trace.op_set Trace.calls_get Trace.calls_set Item.length_enc Item.ok_enc Item.all_get Item.all_set Item.del_get Item.del_set Item.pred_get Item.pred_set Item.args_get Item.args_set Reply.length_enc Reply.ok_enc Reply.all_get Reply.all_set Reply.code_get Reply.code_set Reply.kind_get Reply.kind_set Reply.index_get Reply.index_set Reply.yes_get Reply.yes_set Reply.preds_get Reply.preds_set Reply.rules_get Reply.rules_set Reply.arity_get Reply.arity_set Reply.rows_get Reply.rows_set Reply.fact_get Reply.fact_set Reply.fact_del_get Reply.fact_del_set Reply.fact_pred_get Reply.fact_pred_set Reply.fact_args_get Reply.fact_args_set GEntry.length_enc GEntry.ok_enc GEntry.all_get GEntry.all_set GEntry.seq_get GEntry.seq_set GEntry.kind_get GEntry.kind_set GEntry.code_get GEntry.code_set GOp.length_enc GOp.ok_enc GOp.all_get GOp.all_set GOp.kind_get GOp.kind_set GOp.raw_get GOp.raw_set Reader.length_enc Reader.ok_enc Reader.all_get Reader.all_set Reader.buf_get Reader.buf_set Reader.at__get Reader.at__set Slot.length_enc Slot.ok_enc Slot.all_get Slot.all_set Slot.bound_get Slot.bound_set Slot.name_get Slot.name_set Session.length_enc Session.ok_enc Session.all_get Session.all_set Session.svc_get Session.svc_set Session.buf_get Session.buf_set Session.closed_get Session.closed_set GProgram.length_enc GProgram.ok_enc GProgram.all_get GProgram.all_set GProgram.pool_get GProgram.pool_set GProgram.preds_get GProgram.preds_set GProgram.rules_get GProgram.rules_set GProgram.strata_get GProgram.strata_set PredInfo.length_enc PredInfo.ok_enc PredInfo.all_get PredInfo.all_set PredInfo.arity_get PredInfo.arity_set PredInfo.base_get PredInfo.base_set PredInfo.stratum_get PredInfo.stratum_set Change.length_enc Change.ok_enc Change.all_get Change.all_set Change.del_get Change.del_set Change.pred_get Change.pred_set Change.t_get Change.t_set Store.length_enc Store.ok_enc Store.all_get Store.all_set Store.names_get Store.names_set Store.arity_get Store.arity_set Store.rows_get Store.rows_set Src.length_enc Src.ok_enc Src.all_get Src.all_set Src.b_get Src.b_set Src.at__get Src.at__set Atom.length_enc Atom.ok_enc Atom.all_get Atom.all_set Atom.pred_get Atom.pred_set Atom.args_get Atom.args_set GRule.length_enc GRule.ok_enc GRule.all_get GRule.all_set GRule.head_get GRule.head_set GRule.body_get GRule.body_set GRule.head_pred_get GRule.head_pred_set GRule.head_args_get GRule.head_args_set Cert.length_enc Cert.ok_enc Cert.all_get Cert.all_set Cert.names_get Cert.names_set Cert.nodes_get Cert.nodes_set Fact.length_enc Fact.ok_enc Fact.all_get Fact.all_set Fact.pred_get Fact.pred_set Fact.t_get Fact.t_set Literal.length_enc Literal.ok_enc Literal.all_get Literal.all_set Literal.neg_get Literal.neg_set Literal.atom_get Literal.atom_set Literal.atom_pred_get Literal.atom_pred_set Literal.atom_args_get Literal.atom_args_set Engine.length_enc Engine.ok_enc Engine.all_get Engine.all_set Engine.prog_get Engine.prog_set Engine.st_get Engine.st_set SrcCertm.length_enc SrcCertm.ok_enc SrcCertm.all_get SrcCertm.all_set SrcCertm.b_get SrcCertm.b_set SrcCertm.at__get SrcCertm.at__set GNode.length_enc GNode.ok_enc GNode.all_get GNode.all_set GNode.rule_get GNode.rule_set GNode.pred_get GNode.pred_set GNode.vals_get GNode.vals_set GNode.refs_get GNode.refs_set Term.length_enc Term.ok_enc Term.all_get Term.all_set Term.var_get Term.var_set Term.n_get Term.n_set Env.length_enc Env.ok_enc Env.all_get Env.all_set Env.val_get Env.val_set Env.set_get Env.set_set
attribute [local go_sem] size_put size_ext blk_put free_put blk_alloc free_alloc blk_drew free_drew blk_ext free_ext lookOr_some putOr_some segAt_some cellAt_some storeIn_some put_put put_alloc_new length_arr ok_arr_u8 ok_arr_u32 ok_arr_u64 ok_arr_i64 ok_arr_sl cellsV_agg cellsV_int cellsV_bool cellsV_string cellsV_pointer cellsV_slice cellsV_sl ok_int ok_bool ok_string ok_pointer ok_slice ok_sl toList_arr seg_arr set_arr nth_splice nth_splice0 seg_splice seg_splice0 splice_splice splice_splice0 length_splice_if
attribute [local go_sem ↓] execOp_box
attribute [local go_sem] box_run nth_arr_u8 put_arr_u8 blk_drewN free_drewN put_drewN blk_raw free_raw
def l6I (Ob : Own) (Wb : World) (bs bm : Nat) (A : Option Addr) (N Cp : Nat) (f : Nat → Value) (V : World) : Prop := f 3 = .pointer (some ⟨bs, 0, none⟩) ∧ f 4 = .pointer (some ⟨bm, 0, none⟩) ∧ f 5 = .slice A N Cp ∧ ∃ i : Nat, i ≤ N ∧ f 6 = .int .i64 (i : Nat) ∧ Hid (∃ s m O g, JM Ob Wb bs bm (1000 + 10 * (i : Int)) s m O g V ∧ MsX m)
/-- The service while certificates are handed to it. -/
def p6S (B : Own) (Wb : World) (bs : Nat) (M : Int) (t : InsS) (V : World) : Prop := ∃ s O g, LS B Wb bs M s O g V ∧ s.inst = some t
def p6A (bm bc bo : Nat) (fn : Nat) (ta : Option Addr) (tn tc : Nat) (p : Nat) (f : Nat → Value) : Prop := f 4 = .pointer (some ⟨bm, 0, none⟩) ∧ f 7 = .pointer (some ⟨bc, 0, none⟩) ∧ f 8 = .slice (some ⟨bo, 0, none⟩) fn fn ∧ f 9 = .slice ta tn tc ∧ f 10 = .int .i64 (p : Nat)
def p6L2 (B : Own) (Wb : World) (bs bm bc bo fn : Nat) (ta : Option Addr) (tn tc : Nat) (M : Int) (t : InsS) (f : Nat → Value) (V : World) : Prop := ∃ p : Nat, p ≤ fn ∧ p6A bm bc bo fn ta tn tc p f ∧ Hid (p6S B Wb bs (M + 5120 * (p : Int)) t V)
def p6L3 (B : Own) (Wb : World) (bs bm bc bo fn : Nat) (ta : Option Addr) (tn tc : Nat) (M : Int) (t : InsS) (p rn : Nat) (f : Nat → Value) (V : World) : Prop := p6A bm bc bo fn ta tn tc p f ∧ ∃ i : Nat, i ≤ rn ∧ f 11 = .int .i64 (i : Nat) ∧ Hid (p6S B Wb bs (M + 5120 * (p : Int) + 10 * (i : Int)) t V)
theorem LS.kept5 {Ob : Own} {Wb : World} {bs : Nat} {m : Int} {s : Sv} {O : Own} {g : Nat} {V : World} (h : LS Ob Wb bs m s O g V) {b : Nat} {C : List Value} (hb : Blk.blk Wb b = some C) {j : Nat} (ho : Ob b = .a 5 j) : Blk.blk V b = some C := by
  have h9 := (h.kp.keep b (blk_lt hb) (.inr ⟨5, j, ho, Nat.le_refl _⟩)).2
  unfold Blk.blk at hb ⊢
  rw [h9]; exact hb
theorem BcL.bch {t : InsS} {p : PP} {F1 : List (List NRow)} {T : List NStep} {q : Nat} {r : NRow} (h : BcL t p F1 T q r) (hr : r ∈ F1.getD q []) (hl : r.length ≤ 4) : BcH p F1 T q r := ⟨h.ov, hr, h.ql, h.fl, h.n64, h.ll, h.r4, hl, h.tl, h.t4, h.tgt, h.stp, ⟨h.kn, h.k64, h.cn⟩⟩
set_option maxRecDepth 100000 in
theorem zframe120 (f : Nat → Value) : frameN 120 f = #[f 0, f 1, f 2, f 3, f 4, f 5, f 6, f 7, f 8, f 9, f 10, f 11, f 12, f 13, f 14, f 15, f 16, f 17, f 18, f 19, f 20, f 21, f 22, f 23, f 24, f 25, f 26, f 27, f 28, f 29, f 30, f 31, f 32, f 33, f 34, f 35, f 36, f 37, f 38, f 39, f 40, f 41, f 42, f 43, f 44, f 45, f 46, f 47, f 48, f 49, f 50, f 51, f 52, f 53, f 54, f 55, f 56, f 57, f 58, f 59, f 60, f 61, f 62, f 63, f 64, f 65, f 66, f 67, f 68, f 69, f 70, f 71, f 72, f 73, f 74, f 75, f 76, f 77, f 78, f 79, f 80, f 81, f 82, f 83, f 84, f 85, f 86, f 87, f 88, f 89, f 90, f 91, f 92, f 93, f 94, f 95, f 96, f 97, f 98, f 99, f 100, f 101, f 102, f 103, f 104, f 105, f 106, f 107, f 108, f 109, f 110, f 111, f 112, f 113, f 114, f 115, f 116, f 117, f 118, f 119] := by kernel_rfl
attribute [local go_sem] Tryz.zl75 Tryz.zs75 Tryz.zl52 Tryz.zs52 bne_self_eq_false
set_option maxRecDepth 40000 in
set_option maxHeartbeats 4000000 in
theorem complete_walk (w : World) (a : Option Addr) (len cap : Nat) (g : Nat → GOp) (dt : Nat → List UInt8) (hS : ScriptAt w a len cap g dt) : Calls Tryz.prog 6 #[.slice a len cap] w fun e w' => e = .returned (.bool true) ∧ w.Extends w' := by
  have HS : Hid (ScriptAt w a len cap g dt) := hS
  have hS0 := hS
  clear hS
  go_enter Tryz.func6, Tryz.ntmps6
  go_wp2_with fail
  refine (small_any w a len cap g dt hS0).mono ?_
  rintro e w1 ⟨⟨r, rfl, hr⟩, rfl⟩
  clear hS0
  dsimp only
  cases r
  · go_wp2_with fail
    go_ret
    exact ⟨rfl, ext_Ext (Ext.refl _)⟩
  obtain ⟨hlen, hsz⟩ := hr rfl
  have HSZ : Hid (∀ i, i < len → (g i).raw.len ≤ 65536) := hsz
  clear hr hsz
  go_wp2_with fail
  refine (new_any w1).mono ?_
  rintro e w2 ⟨rfl, e2⟩
  dsimp only
  have HE2 := hid_of e2
  clear e2
  go_wp2_with fail
  refine (mnew_any w2).mono ?_
  rintro e w3 ⟨rfl, e3⟩
  dsimp only
  have hsz2 : w2.heap.size = w1.heap.size + 1 := by rw [HE2.out, World.size_alloc]
  rw [HE2.out] at e3
  rw [hsz2]
  have HS3 : Hid (ScriptAt w3 a len cap g dt) := by
    show ScriptAt _ _ _ _ _ _
    rw [e3]
    exact (HS.out.mono (extends_alloc (ext_Ext (Ext.refl _)) _)).mono (extends_alloc (ext_Ext (Ext.refl _)) _)
  have HE3 := hid_of e3
  clear e3 hsz2 HE2
  go_wp2_with fail
  refine (sends_any w3 a len cap g dt HS3.out hlen).mono ?_
  rintro e W1 ⟨A, N, Cp, L, rfl, hat⟩
  dsimp only
  rw [HE3.out] at hat
  obtain ⟨hbeg, hjm⟩ := beg3_of HS.out hlen HSZ.out hat
  obtain ⟨bs, ebs⟩ : ∃ bs, bs = w1.heap.size := ⟨_, rfl⟩
  rw [← ebs] at hbeg hjm ⊢
  obtain ⟨bm, ebm⟩ : ∃ bm, bm = bs + 1 := ⟨_, rfl⟩
  rw [← ebm] at hjm ⊢
  obtain ⟨Ob, hOb⟩ : ∃ Ob, Ob = OL bs (.a 0 7) := ⟨_, rfl⟩
  rw [← hOb] at hbeg hjm
  have HBEG := hid_of hbeg
  have HJ0 : Hid (∃ s m O g, JM Ob W1 bs bm (1000 + 10 * ((0 : Nat) : Int)) s m O g W1 ∧ MsX m) := ⟨_, _, _, _, hjm, fun e => by cases e⟩
  have hN : N ≤ 65536 := hbeg.nn
  clear hat hbeg ebs hOb HS3 HE3 HSZ hjm ebm
  go_upto_region 6 with fail
  refine wp_loop_f 120 (l6I Ob W1 bs bm A N Cp) (fun f _ => N - (intOf (f 6)).toNat) rfl ⟨rfl, rfl, rfl, 0, by omega, rfl, HJ0⟩ ?_
  clear HJ0
  intro F V hrel
  obtain ⟨f3, f4, f5, i, hi, f6, HJ⟩ := hrel
  have H6 := hid_of f6
  rw [zframe120, f3, f4, f5, f6]
  clear f3 f4 f5 f6
  obtain ⟨s, m, O, g0, hJM, hML⟩ := HJ.out
  have HJM := hid_of hJM
  have HML := hid_of hML
  clear HJ hML
  by_cases hin : i < N
  rotate_left 1
  · have hin' : ¬ (i : Int) < (N : Int) := by omega
    obtain ⟨Ce, fa, fc, hMo⟩ := hJM.mo
    have hbmV := hMo.cell
    have cld := hMo.ld
    have kc0 : 0 < Ce.length := by rw [hMo.len]; omega
    have kc6 : 6 < Ce.length := by rw [hMo.len]; omega
    have c6 := hMo.fs
    have HX : Hid (w1.Extends V) := kp_ext hJM.ls.kp HBEG.out.ex HBEG.out.old
    have hi1 : i ≤ 65536 := by omega
    cases hlm : m.ld with
    | false =>
      rw [hlm] at cld
      clear hJM hMo hlm
      go_wp2_with fail
      go_ret
      exact ⟨rfl, HX.out⟩
    | true =>
      rw [hlm] at cld
      have hMI := hJM.ag.msi hJM.ls.inv hlm
      obtain ⟨t, hti, hAT⟩ : ∃ t, s.inst = some t ∧ AgT t m := by
        rcases hJM.ag with ⟨-, h⟩ | h
        · rw [h] at hlm; cases hlm
        · exact h
      have HAT : Hid (AgT t m ∧ InG t) := ⟨hAT, hJM.ls.inv.ins t hti⟩
      have HTI := hid_of hti
      have HMX : Hid (LeaS m.p ∧ ∀ r ∈ m.p.rules, r.body.length ≤ 8) := HML.out hlm
      have HMI := hid_of hMI
      have HLM := hid_of hlm
      obtain ⟨fn, efn⟩ : ∃ fn, fn = m.F.length := ⟨_, rfl⟩
      rw [← efn] at c6
      have hfn64 : fn ≤ 64 := by rw [efn, hMI.len]; exact hMI.pg.g.pok.nD
      have HFN := hid_of efn
      have hnc := newClient_any V bs
      clear hJM hMo hlm hti hAT hMI efn HML HX
      go_wp2_with fail
      refine hnc.mono ?_
      rintro e V1 ⟨rfl, e1⟩
      dsimp only
      have hx1 : V.Extends V1 := by rw [e1]; exact extends_alloc (ext_Ext (Ext.refl _)) _
      have hbc1 : blk V1 V.heap.size = some (clE bs) := by rw [e1, blk_alloc, if_pos rfl]
      have hJ1 := HJM.out.grow hx1
      obtain ⟨bc, ebc⟩ : ∃ bc, bc = V.heap.size := ⟨_, rfl⟩
      have hbcO : lab O V.heap.size .no bc = .no := lab_ge (by omega)
      rw [← ebc] at hbc1 ⊢
      obtain ⟨O1, eO1⟩ : ∃ O1, O1 = lab O V.heap.size .no := ⟨_, rfl⟩
      rw [← eO1] at hbcO hJ1
      have hbm1 : blk V1 bm = some Ce := (hx1.blk (blk_lt hbmV)).trans hbmV
      obtain ⟨Ce1, fa1, fc1, hMo1⟩ := hJ1.mo
      have ec1 : Ce1 = Ce := by
        have h9 := hMo1.cell
        rw [hbm1] at h9
        exact (Option.some.inj h9).symm
      subst ec1
      have efa : fa1 = fa ∧ fc1 = fc := by
        have h9 := hMo1.fs
        rw [← HFN.out, c6] at h9
        cases h9
        exact ⟨rfl, rfl⟩
      obtain ⟨rfl, rfl⟩ := efa
      have hJ1d := hJ1.drewN 1
      have hpf := OcN.perfectN_any ⟨O1, hJ1.ls.lo⟩ V1.drew bm 2 m.p fa1 fn fc1 m.F (by
        have h9 := (hMo1.at.ext (extends_drewN (ext_Ext (Ext.refl V1)) 1)).pfe HLM.out HMI.out
        rw [← HFN.out] at h9
        exact h9) (by
        have h9 := hMo1.fc HLM.out
        rw [← HFN.out] at h9
        exact h9.sub (Sub.cores fun b C hb ho => ⟨hb, ho⟩))
      unfold OcN.PfPost at hpf
      dsimp only at hpf
      have HJ1 := hid_of hJ1d
      have HMO1 := hid_of hMo1
      have HBC1 : Hid (blk V1.drew bc = some (clE bs) ∧ O1 bc = .no) := ⟨hbc1, hbcO⟩
      clear hnc e1 hx1 hbc1 hJ1 ebc hbcO eO1 hMo1 hJ1d hbmV HJM cld
      go_upto_region 13 with fail
      repeat go_step
      refine wp_region_held_drew (S := fun W' => blk W' bm = some Ce1) (by kernel_rfl) hbm1 (fun hHeld => ?_)
      refine wpAnyH_take (i := 0) (oi := ⟨_, _, _, _, _, _⟩) (v := ?_) rfl (by kernel_rfl) (by kernel_rfl) (by kernel_rfl) (fun _ _ _ h => h) (Or.inl ⟨by rfl, ?_⟩) (by assumption) ?_
      rotate_left 1
      · intro W' hSw
        go_simp
        try with_reducible rfl
      try simp only [Act.put, List.setIfInBounds_toArray, List.set_cons_zero, List.set_cons_succ]
      refine wpAnyH_take (i := 1) (oi := ⟨_, _, _, _, _, _⟩) (v := ?_) rfl (by kernel_rfl) (by kernel_rfl) (by kernel_rfl) (fun _ _ _ h => h) (Or.inl ⟨by rfl, ?_⟩) (by assumption) ?_
      rotate_left 1
      · intro W' hSw
        go_simp
        try with_reducible rfl
      try simp only [Act.put, List.setIfInBounds_toArray, List.set_cons_zero, List.set_cons_succ]
      refine wpAnyH_take (i := 2) (oi := ⟨_, _, _, _, _, _⟩) (v := ?_) rfl (by kernel_rfl) (by kernel_rfl) (by kernel_rfl) (fun _ _ _ h => h) (Or.inl ⟨by rfl, ?_⟩) (by assumption) ?_
      rotate_left 1
      · intro W' hSw
        go_simp
        try with_reducible rfl
      try simp only [Act.put, List.setIfInBounds_toArray, List.set_cons_zero, List.set_cons_succ]
      refine wpAnyH_take (i := 3) (oi := ⟨_, _, _, _, _, _⟩) (v := ?_) rfl (by kernel_rfl) (by kernel_rfl) (by kernel_rfl) (fun _ _ _ h => h) (Or.inl ⟨by rfl, ?_⟩) (by assumption) ?_
      rotate_left 1
      · intro W' hSw
        go_simp
        try with_reducible rfl
      try simp only [Act.put, List.setIfInBounds_toArray, List.set_cons_zero, List.set_cons_succ]
      refine wpAnyH_take (i := 4) (oi := ⟨_, _, _, _, _, _⟩) (v := ?_) rfl (by kernel_rfl) (by kernel_rfl) (by kernel_rfl) (fun _ _ _ h => h) (Or.inl ⟨by rfl, ?_⟩) (by assumption) ?_
      rotate_left 1
      · intro W' hSw
        go_simp
        try with_reducible rfl
      try simp only [Act.put, List.setIfInBounds_toArray, List.set_cons_zero, List.set_cons_succ]
      refine wpAnyH_take (i := 5) (oi := ⟨_, _, _, _, _, _⟩) (v := ?_) rfl (by kernel_rfl) (by kernel_rfl) (by kernel_rfl) (fun _ _ _ h => h) (Or.inl ⟨by rfl, ?_⟩) (by assumption) ?_
      rotate_left 1
      · intro W' hSw
        go_simp
        try with_reducible rfl
      try simp only [Act.put, List.setIfInBounds_toArray, List.set_cons_zero, List.set_cons_succ]
      refine wpAnyH_take (i := 6) (oi := ⟨_, _, _, _, _, _⟩) (v := ?_) rfl (by kernel_rfl) (by kernel_rfl) (by kernel_rfl) (fun _ _ _ h => h) (Or.inl ⟨by rfl, ?_⟩) (by assumption) ?_
      rotate_left 1
      · intro W' hSw
        go_simp
        try with_reducible rfl
      try simp only [Act.put, List.setIfInBounds_toArray, List.set_cons_zero, List.set_cons_succ]
      refine wpAnyH_ready (rs := [7]) (by kernel_rfl) (by simp) ?_
      refine AllReadyH.cons (o := ⟨_, _, _, _, _, _⟩) rfl (fun K' hK => ?_) AllReadyH.nil
      go_simp
      refine hpf.mono ?_
      rintro e V2 ⟨bo, ta, tn, tc, F1, T1, rfl, hPf, hFl, hx2, hFA, hST, -, hLL, hR4⟩
      dsimp only
      have hbm2 : blk V2 bm = some Ce1 := (hx2.blk (blk_lt hbm1)).trans hbm1
      clear hLL hR4
      refine hK.out _ _ hbm2 (fun hHeld => ?_)
      clear hK K'
      try simp only [Act.put, List.setIfInBounds_toArray, List.set_cons_zero, List.set_cons_succ]
      refine wpAnyH_take (i := 8) (oi := ⟨_, _, _, _, _, _⟩) (v := ?_) rfl (by kernel_rfl) (by kernel_rfl) (by kernel_rfl) (fun _ _ _ h => h) (Or.inl ⟨by rfl, ?_⟩) (by assumption) ?_
      rotate_left 1
      · intro W' hSw
        go_simp
        try with_reducible rfl
      try simp only [Act.put, List.setIfInBounds_toArray, List.set_cons_zero, List.set_cons_succ]
      refine wpAnyH_take (i := 9) (oi := ⟨_, _, _, _, _, _⟩) (v := ?_) rfl (by kernel_rfl) (by kernel_rfl) (by kernel_rfl) (fun _ _ _ h => h) (Or.inl ⟨by rfl, ?_⟩) (by assumption) ?_
      rotate_left 1
      · intro W' hSw
        go_simp
        try with_reducible rfl
      try simp only [Act.put, List.setIfInBounds_toArray, List.set_cons_zero, List.set_cons_succ]
      refine wpAnyH_take (i := 10) (oi := ⟨_, _, _, _, _, _⟩) (v := ?_) rfl (by kernel_rfl) (by kernel_rfl) (by kernel_rfl) (fun _ _ _ h => h) (Or.inl ⟨by rfl, ?_⟩) (by assumption) ?_
      rotate_left 1
      · intro W' hSw
        go_simp
        try with_reducible rfl
      try simp only [Act.put, List.setIfInBounds_toArray, List.set_cons_zero, List.set_cons_succ]
      refine wpAnyH_take (i := 11) (oi := ⟨_, _, _, _, _, _⟩) (v := ?_) rfl (by kernel_rfl) (by kernel_rfl) (by kernel_rfl) (fun _ _ _ h => h) (Or.inl ⟨by rfl, ?_⟩) (by assumption) ?_
      rotate_left 1
      · intro W' hSw
        go_simp
        try with_reducible rfl
      try simp only [Act.put, List.setIfInBounds_toArray, List.set_cons_zero, List.set_cons_succ]
      refine wpAnyH_take (i := 12) (oi := ⟨_, _, _, _, _, _⟩) (v := ?_) rfl (by kernel_rfl) (by kernel_rfl) (by kernel_rfl) (fun _ _ _ h => h) (Or.inl ⟨by rfl, ?_⟩) (by assumption) ?_
      rotate_left 1
      · intro W' hSw
        go_simp
        try with_reducible rfl
      try simp only [Act.put, List.setIfInBounds_toArray, List.set_cons_zero, List.set_cons_succ]
      refine wpAnyH_done (by kernel_rfl) ?_ _
      clear hHeld hpf
      rw [← HFN.out]
      obtain ⟨B, eB⟩ : ∃ B, B = lab O1 V1.drew.heap.size .no := ⟨_, rfl⟩
      have hJ2 := HJ1.out.grow hx2
      rw [← HFN.out] at hFA
      have hJ2' : JM Ob W1 bs bm (1000 + 10 * (i : Int)) s m B g0 V2 := by rw [eB]; exact hJ2
      rw [← eB] at hFA hST
      have hbc2 : blk V2 bc = some (clE bs) ∧ B bc = .no := by
        refine ⟨(hx2.blk (blk_lt HBC1.out.1)).trans HBC1.out.1, ?_⟩
        rw [eB, lab_lt (blk_lt HBC1.out.1)]; exact HBC1.out.2
      have hbmB : B bm = .a 5 50 := by
        have h9 := blk_lt HMO1.out.cell
        have h8 : bm < V1.drew.heap.size := h9
        rw [eB, lab_lt h8]; exact HMO1.out.own
      have hpgB : PgR (core B V2) (Ce1.drop 2) m.p := by
        have hsub : Sub (core O1 V1) (core B V2) := by
          rw [eB]
          exact Sub.cores fun b C hb ho => ⟨(hx2.blk (show b < V1.drew.heap.size from blk_lt hb)).trans (show blk V1.drew b = some C from hb), by rw [lab_lt (show b < V1.drew.heap.size from blk_lt hb)]; exact ho⟩
        exact (HMO1.out.pg HLM.out).sub hsub
      have hpo : ∀ V' : World, Sub (core B V2) V' → blk V' bm = some Ce1 → ProgO V' bm 2 m.p := fun V' hs hb => ⟨Ce1, hb, by rw [HMO1.out.len]; omega, hpgB.sub hs⟩
      have HPOG := hid_of hpo
      have HBM2 : Hid (blk V2 bm = some Ce1 ∧ B bm = .a 5 50) := ⟨hbm2, hbmB⟩
      have HBC2 := hid_of hbc2
      have HFA := hid_of hFA
      have HST := hid_of hST
      have HPF := hid_of hPf
      have HFL : Hid (F1.length = fn) := by show _ = _; rw [HFN.out]; exact hFl
      have HKP : Hid (Kp Ob W1 B V2) := hJ2'.ls.kp
      obtain ⟨M, eM⟩ : ∃ M : Int, M = 1000 + 10 * (i : Int) := ⟨_, rfl⟩
      have hM : 1000 ≤ M ∧ M ≤ 700000 := by omega
      have HP0 : Hid (p6S B V2 bs (M + 5120 * ((0 : Nat) : Int)) t V2) := ⟨s, B, g0, (by rw [eM]; exact (hJ2'.ls.self).le (by omega)), HTI.out⟩
      clear hPf hFl hx2 hFA hST eB hJ2 hJ2' hbc2 hbmB hpgB hpo hbm2 hbm1 eM HJ1 HMO1 HBC1 HTI
      go_upto_region 15 with fail
      refine wp_loop_f 120 (p6L2 B V2 bs bm bc bo fn ta tn tc M t) (fun f _ => fn - (intOf (f 10)).toNat) rfl ⟨0, by omega, ⟨rfl, rfl, rfl, rfl, rfl⟩, HP0⟩ ?_
      clear HP0
      intro G V3 hrel
      obtain ⟨p, hp, ⟨f4, f7, f8, f9, f10⟩, HP⟩ := hrel
      have H10 := hid_of f10
      rw [zframe120, f4, f7, f8, f9, f10]
      clear f4 f7 f8 f9 f10
      by_cases hpn : p < fn
      rotate_left 1
      · have hpn' : ¬ (p : Int) < (fn : Int) := by omega
        have HX : Hid (w1.Extends V3) := by
          obtain ⟨s3, O3, g3, h3, -⟩ := HP.out
          exact kp_ext (HKP.out.trans h3.kp) HBEG.out.ex HBEG.out.old
        clear HP
        go_wp2_with fail
        go_ret
        exact ⟨rfl, HX.out⟩
      have hpn' : (p : Int) < (fn : Int) := by omega
      have p0 : (0 : Int) ≤ (p : Int) := by omega
      have p2 : ((p : Int)).toNat = p := by omega
      have hFq : F1[p]? = some (F1.getD p []) := by rw [List.getD_eq_getElem?_getD, List.getElem?_eq_getElem (by rw [HFL.out]; exact hpn)]; rfl
      obtain ⟨bq, Cq, sq, eqq, y1, y2, y3, y4⟩ := HFA.out.at hFq
      have ebq : bq = bo := by cases eqq; rfl
      subst ebq
      obtain ⟨y5, y6⟩ := core_blk y1
      obtain ⟨ya, yn, yc⟩ := sq
      dsimp only at y3 y4
      obtain ⟨K0, w1', w2, w3⟩ := y4
      have hyb : yn ≤ 512 := by
        rw [← w2]
        exact overN_not.1 (HMI.out.nov _ _ HPF.out) p
      have HYQ : Hid (blk V2 bq = some Cq ∧ B bq = .no) := ⟨y5, y6⟩
      have HW1 := hid_of w1'
      have HW2 := hid_of w2
      have HW3 := hid_of w3
      have HP0 : Hid (p6S B V2 bs (M + 5120 * (p : Int) + 10 * ((0 : Nat) : Int)) t V3) := by
        obtain ⟨s3, O3, g3, h3, h4⟩ := HP.out
        exact ⟨s3, O3, g3, h3.le (by omega), h4⟩
      clear y1 y5 y6 w1' w2 w3 hFq eqq HP
      go_upto_region 18 with fail
      refine wp_loop_f 120 (p6L3 B V2 bs bm bc bq fn ta tn tc M t p yn) (fun f _ => yn - (intOf (f 11)).toNat) rfl ⟨⟨rfl, rfl, rfl, rfl, rfl⟩, 0, by omega, rfl, HP0⟩ ?_
      clear HP0
      intro G3 V4 hrel
      obtain ⟨⟨f4, f7, f8, f9, f10⟩, j, hj, f11, HP4⟩ := hrel
      have H11 := hid_of f11
      rw [zframe120, f4, f7, f8, f9, f10, f11]
      clear f4 f7 f8 f9 f10 f11
      obtain ⟨s4, O4, g4, hL4, hi4⟩ := HP4.out
      have hbq4 : blk V4 bq = some Cq := (hL4.blk HYQ.out.1 HYQ.out.2).1
      by_cases hjn : j < yn
      rotate_left 1
      · have hjn' : ¬ (j : Int) < (yn : Int) := by omega
        have HPN : Hid (p6S B V2 bs (M + 5120 * ((p + 1 : Nat) : Int)) t V4) := ⟨s4, O4, g4, hL4.le (by omega), hi4⟩
        clear hL4 hi4 HP4
        go_wp2_with fail
        refine ⟨rfl, rfl, ⟨p + 1, by omega, ⟨rfl, rfl, rfl, rfl, ?_⟩, HPN⟩, ?_⟩
        · show Value.int .i64 _ = _
          go_num
        · show fn - (intOf (Value.int .i64 _)).toNat < fn - (intOf (G 10)).toNat
          rw [H10.out]
          simp [intOf]; omega
      have hjn' : (j : Int) < (yn : Int) := by omega
      have j0 : (0 : Int) ≤ (j : Int) := by omega
      have j2 : ((j : Int)).toNat = j := by omega
      obtain ⟨x, hx⟩ : ∃ x, K0[j]? = some x := ⟨_, List.getElem?_eq_getElem (by rw [HW1.out.1]; exact hjn)⟩
      obtain ⟨r, hr⟩ : ∃ r, (F1.getD p [])[j]? = some r := ⟨_, List.getElem?_eq_getElem (by rw [HW2.out]; exact hjn)⟩
      have hrow := HW3.out j x r hx hr
      obtain ⟨bk, Ck, eya, z1, z2, z3⟩ := HW1.out.2 j x hx
      have z4 : nth Ck j = some (.slice x.a x.len x.cap) := by
        have h8 := nth_in (j := 0) z3 (show nth (encR x) 0 = some (Sl.val x) from rfl) (by omega)
        rw [Nat.mul_one, Nat.add_zero] at h8
        exact h8
      have z5 : j < Ck.length := by omega
      obtain ⟨z6, z7⟩ := core_blk z1
      have hbk4 : blk V4 bk = some Ck := (hL4.blk z6 z7).1
      obtain ⟨xa, xn, xc⟩ := x
      dsimp only at z4 hrow
      rw [eya] at y3
      have hrm : r ∈ F1.getD p [] := List.mem_of_getElem? hr
      have hBL := bcl_of HAT.out.1 HAT.out.2 HMX.out HPF.out hrm
      have hrl4 : r.length ≤ 4 := by
        have h9 : F1[p]? = some (F1.getD p []) := by rw [List.getD_eq_getElem?_getD, List.getElem?_eq_getElem (by rw [HFL.out]; exact hpn)]; rfl
        exact hBL.r4 _ (List.mem_of_getElem? h9) r hrm
      have hs4 : Sub (core B V2) V4.drew := fun b C hb => (Sub.core _ _) b C (hL4.sub b C hb)
      have hbm4 : blk V4 bm = some Ce1 := hL4.kept5 HBM2.out.1 HBM2.out.2
      have hbu := build_any V4.drew bm 2 m.p (HPOG.out _ hs4 hbm4) (some ⟨bq, 0, none⟩) fn fn F1 (HFA.out.sub hs4) ta tn tc T1 (HST.out.sub hs4) p xa xn xc r (hrow.sub hs4) (hBL.bch hrm hrl4)
      unfold BcPost at hbu
      obtain ⟨ok, eok⟩ : ∃ ok, ok = decide ((bcC m.p T1 p r).2.length ≤ 256) := ⟨_, rfl⟩
      obtain ⟨xs, exs⟩ : ∃ xs, xs = encCt (bcC m.p T1 p r) := ⟨_, rfl⟩
      rw [← eok, ← exs] at hbu
      have HOK := hid_of eok
      have HXS := hid_of exs
      have HBL := hid_of hBL
      have HROW := hid_of hrow
      have HBK : Hid (blk V2 bk = some Ck ∧ B bk = .no) := ⟨z6, z7⟩
      have HL4 := hid_of hL4
      have HI4 := hid_of hi4
      clear hx hr hrow eya z1 z2 z3 z6 z7 hrm hBL hs4 hbm4 eok exs hL4 hi4 HP4
      go_upto_region 20 with fail
      repeat go_step
      have hS4 : blk V4.drew bq = some Cq ∧ blk V4.drew bk = some Ck := ⟨hbq4, hbk4⟩
      refine wp_region_held_drew (S := fun W' => blk W' bq = some Cq ∧ blk W' bk = some Ck) (by kernel_rfl) ⟨hbq4, hbk4⟩ (fun hHeld => ?_)
      refine wpAnyH_take (i := 0) (oi := ⟨_, _, _, _, _, _⟩) (v := ?_) rfl (by kernel_rfl) (by kernel_rfl) (by kernel_rfl) (fun _ _ _ h => h) (Or.inl ⟨by rfl, ?_⟩) (by assumption) ?_
      rotate_left 1
      · intro W' hSw
        obtain ⟨hS1, hS2⟩ := hSw
        go_simp
        try with_reducible rfl
      try simp only [Act.put, List.setIfInBounds_toArray, List.set_cons_zero, List.set_cons_succ]
      refine wpAnyH_take (i := 1) (oi := ⟨_, _, _, _, _, _⟩) (v := ?_) rfl (by kernel_rfl) (by kernel_rfl) (by kernel_rfl) (fun _ _ _ h => h) (Or.inl ⟨by rfl, ?_⟩) (by assumption) ?_
      rotate_left 1
      · intro W' hSw
        obtain ⟨hS1, hS2⟩ := hSw
        go_simp
        try with_reducible rfl
      try simp only [Act.put, List.setIfInBounds_toArray, List.set_cons_zero, List.set_cons_succ]
      refine wpAnyH_take (i := 2) (oi := ⟨_, _, _, _, _, _⟩) (v := ?_) rfl (by kernel_rfl) (by kernel_rfl) (by kernel_rfl) (fun _ _ _ h => h) (Or.inl ⟨by rfl, ?_⟩) (by assumption) ?_
      rotate_left 1
      · intro W' hSw
        obtain ⟨hS1, hS2⟩ := hSw
        go_simp
        try with_reducible rfl
      try simp only [Act.put, List.setIfInBounds_toArray, List.set_cons_zero, List.set_cons_succ]
      refine wpAnyH_take (i := 3) (oi := ⟨_, _, _, _, _, _⟩) (v := ?_) rfl (by kernel_rfl) (by kernel_rfl) (by kernel_rfl) (fun _ _ _ h => h) (Or.inl ⟨by rfl, ?_⟩) (by assumption) ?_
      rotate_left 1
      · intro W' hSw
        obtain ⟨hS1, hS2⟩ := hSw
        go_simp
        try with_reducible rfl
      try simp only [Act.put, List.setIfInBounds_toArray, List.set_cons_zero, List.set_cons_succ]
      refine wpAnyH_take (i := 4) (oi := ⟨_, _, _, _, _, _⟩) (v := ?_) rfl (by kernel_rfl) (by kernel_rfl) (by kernel_rfl) (fun _ _ _ h => h) (Or.inl ⟨by rfl, ?_⟩) (by assumption) ?_
      rotate_left 1
      · intro W' hSw
        obtain ⟨hS1, hS2⟩ := hSw
        go_simp
        try with_reducible rfl
      try simp only [Act.put, List.setIfInBounds_toArray, List.set_cons_zero, List.set_cons_succ]
      refine wpAnyH_take (i := 5) (oi := ⟨_, _, _, _, _, _⟩) (v := ?_) rfl (by kernel_rfl) (by kernel_rfl) (by kernel_rfl) (fun _ _ _ h => h) (Or.inl ⟨by rfl, ?_⟩) (by assumption) ?_
      rotate_left 1
      · intro W' hSw
        obtain ⟨hS1, hS2⟩ := hSw
        go_simp
        try with_reducible rfl
      try simp only [Act.put, List.setIfInBounds_toArray, List.set_cons_zero, List.set_cons_succ]
      refine wpAnyH_take (i := 6) (oi := ⟨_, _, _, _, _, _⟩) (v := ?_) rfl (by kernel_rfl) (by kernel_rfl) (by kernel_rfl) (fun _ _ _ h => h) (Or.inl ⟨by rfl, ?_⟩) (by assumption) ?_
      rotate_left 1
      · intro W' hSw
        obtain ⟨hS1, hS2⟩ := hSw
        go_simp
        try with_reducible rfl
      try simp only [Act.put, List.setIfInBounds_toArray, List.set_cons_zero, List.set_cons_succ]
      refine wpAnyH_take (i := 7) (oi := ⟨_, _, _, _, _, _⟩) (v := ?_) rfl (by kernel_rfl) (by kernel_rfl) (by kernel_rfl) (fun _ _ _ h => h) (Or.inl ⟨by rfl, ?_⟩) (by assumption) ?_
      rotate_left 1
      · intro W' hSw
        obtain ⟨hS1, hS2⟩ := hSw
        go_simp
        try with_reducible rfl
      try simp only [Act.put, List.setIfInBounds_toArray, List.set_cons_zero, List.set_cons_succ]
      refine wpAnyH_take (i := 8) (oi := ⟨_, _, _, _, _, _⟩) (v := ?_) rfl (by kernel_rfl) (by kernel_rfl) (by kernel_rfl) (fun _ _ _ h => h) (Or.inl ⟨by rfl, ?_⟩) (by assumption) ?_
      rotate_left 1
      · intro W' hSw
        obtain ⟨hS1, hS2⟩ := hSw
        go_simp
        try with_reducible rfl
      try simp only [Act.put, List.setIfInBounds_toArray, List.set_cons_zero, List.set_cons_succ]
      refine wpAnyH_take (i := 9) (oi := ⟨_, _, _, _, _, _⟩) (v := ?_) rfl (by kernel_rfl) (by kernel_rfl) (by kernel_rfl) (fun _ _ _ h => h) (Or.inl ⟨by rfl, ?_⟩) (by assumption) ?_
      rotate_left 1
      · intro W' hSw
        obtain ⟨hS1, hS2⟩ := hSw
        go_simp
        try with_reducible rfl
      try simp only [Act.put, List.setIfInBounds_toArray, List.set_cons_zero, List.set_cons_succ]
      refine wpAnyH_take (i := 10) (oi := ⟨_, _, _, _, _, _⟩) (v := ?_) rfl (by kernel_rfl) (by kernel_rfl) (by kernel_rfl) (fun _ _ _ h => h) (Or.inl ⟨by rfl, ?_⟩) (by assumption) ?_
      rotate_left 1
      · intro W' hSw
        obtain ⟨hS1, hS2⟩ := hSw
        go_simp
        try with_reducible rfl
      try simp only [Act.put, List.setIfInBounds_toArray, List.set_cons_zero, List.set_cons_succ]
      refine wpAnyH_take (i := 11) (oi := ⟨_, _, _, _, _, _⟩) (v := ?_) rfl (by kernel_rfl) (by kernel_rfl) (by kernel_rfl) (fun _ _ _ h => h) (Or.inl ⟨by rfl, ?_⟩) (by assumption) ?_
      rotate_left 1
      · intro W' hSw
        obtain ⟨hS1, hS2⟩ := hSw
        go_simp
        try with_reducible rfl
      try simp only [Act.put, List.setIfInBounds_toArray, List.set_cons_zero, List.set_cons_succ]
      refine wpAnyH_take (i := 12) (oi := ⟨_, _, _, _, _, _⟩) (v := ?_) rfl (by kernel_rfl) (by kernel_rfl) (by kernel_rfl) (fun _ _ _ h => h) (Or.inl ⟨by rfl, ?_⟩) (by assumption) ?_
      rotate_left 1
      · intro W' hSw
        obtain ⟨hS1, hS2⟩ := hSw
        go_simp
        try with_reducible rfl
      try simp only [Act.put, List.setIfInBounds_toArray, List.set_cons_zero, List.set_cons_succ]
      refine wpAnyH_ready (rs := [13]) (by kernel_rfl) (by simp) ?_
      refine AllReadyH.cons (o := ⟨_, _, _, _, _, _⟩) rfl (fun K' hK => ?_) AllReadyH.nil
      go_simp
      refine hbu.mono ?_
      rintro e V6 ⟨a6, n6, c6', rfl, hx6, hob⟩
      dsimp only
      have hS6 : blk V6 bq = some Cq ∧ blk V6 bk = some Ck := ⟨(hx6.blk (blk_lt hS4.1)).trans hS4.1, (hx6.blk (blk_lt hS4.2)).trans hS4.2⟩
      refine hK.out _ _ hS6 (fun hHeld => ?_)
      clear hK K'
      try simp only [Act.put, List.setIfInBounds_toArray, List.set_cons_zero, List.set_cons_succ]
      refine wpAnyH_take (i := 14) (oi := ⟨_, _, _, _, _, _⟩) (v := ?_) rfl (by kernel_rfl) (by kernel_rfl) (by kernel_rfl) (fun _ _ _ h => h) (Or.inl ⟨by rfl, ?_⟩) (by assumption) ?_
      rotate_left 1
      · intro W' hSw
        obtain ⟨hS1, hS2⟩ := hSw
        go_simp
        try with_reducible rfl
      try simp only [Act.put, List.setIfInBounds_toArray, List.set_cons_zero, List.set_cons_succ]
      refine wpAnyH_take (i := 15) (oi := ⟨_, _, _, _, _, _⟩) (v := ?_) rfl (by kernel_rfl) (by kernel_rfl) (by kernel_rfl) (fun _ _ _ h => h) (Or.inl ⟨by rfl, ?_⟩) (by assumption) ?_
      rotate_left 1
      · intro W' hSw
        obtain ⟨hS1, hS2⟩ := hSw
        go_simp
        try with_reducible rfl
      try simp only [Act.put, List.setIfInBounds_toArray, List.set_cons_zero, List.set_cons_succ]
      refine wpAnyH_take (i := 16) (oi := ⟨_, _, _, _, _, _⟩) (v := ?_) rfl (by kernel_rfl) (by kernel_rfl) (by kernel_rfl) (fun _ _ _ h => h) (Or.inl ⟨by rfl, ?_⟩) (by assumption) ?_
      rotate_left 1
      · intro W' hSw
        obtain ⟨hS1, hS2⟩ := hSw
        go_simp
        try with_reducible rfl
      try simp only [Act.put, List.setIfInBounds_toArray, List.set_cons_zero, List.set_cons_succ]
      refine wpAnyH_take (i := 17) (oi := ⟨_, _, _, _, _, _⟩) (v := ?_) rfl (by kernel_rfl) (by kernel_rfl) (by kernel_rfl) (fun _ _ _ h => h) (Or.inl ⟨by rfl, ?_⟩) (by assumption) ?_
      rotate_left 1
      · intro W' hSw
        obtain ⟨hS1, hS2⟩ := hSw
        go_simp
        try with_reducible rfl
      try simp only [Act.put, List.setIfInBounds_toArray, List.set_cons_zero, List.set_cons_succ]
      refine wpAnyH_take (i := 18) (oi := ⟨_, _, _, _, _, _⟩) (v := ?_) rfl (by kernel_rfl) (by kernel_rfl) (by kernel_rfl) (fun _ _ _ h => h) (Or.inl ⟨by rfl, ?_⟩) (by assumption) ?_
      rotate_left 1
      · intro W' hSw
        obtain ⟨hS1, hS2⟩ := hSw
        go_simp
        try with_reducible rfl
      try simp only [Act.put, List.setIfInBounds_toArray, List.set_cons_zero, List.set_cons_succ]
      refine wpAnyH_done (by kernel_rfl) ?_ _
      clear hHeld hbu
      have hL6 := (HL4.out.drewN 1).grow hx6
      cases ok with
      | false =>
        have HPN : Hid (p6S B V2 bs (M + 5120 * (p : Int) + 10 * ((j + 1 : Nat) : Int)) t V6) := ⟨_, _, _, hL6.le (by omega), HI4.out⟩
        clear hL6 hx6 hob hS6 hS4 hbq4 hbk4
        go_wp2_with fail
        refine ⟨rfl, rfl, ⟨⟨rfl, rfl, rfl, rfl, rfl⟩, j + 1, by omega, ?_, HPN⟩, ?_⟩
        · show Value.int .i64 _ = _
          go_num
        · show yn - (intOf (Value.int .i64 _)).toNat < yn - (intOf (G3 11)).toNat
          rw [H11.out]
          simp [intOf]; omega
      | true =>
        have hle : (bcC m.p T1 p r).2.length ≤ 256 := of_decide_eq_true HOK.out.symm
        have hob' := hob hle
        have en6 : n6 = xs.length := hob'.2.2
        subst en6
        have h9 := bs_own hob'.1
        have hxl : xs.length ≤ 65532 := by rw [HXS.out]; exact HBL.out.enl hle
        have hbc6 : blk V6 bc = some (clE bs) := (hL6.blk HBC2.out.1 HBC2.out.2).1
        have hgr := cgrant_any hL6.self (by omega) bc hbc6 a6 xs.length c6' h9.2.1 (Nat.le_trans h9.2.2 (by decide)) xs h9.1 hxl
        unfold CgPost at hgr
        have HL6 := hid_of hL6
        have HLE : Hid ((bcC m.p T1 p r).2.length ≤ 256 ∧ xs.length ≤ 65532) := ⟨hle, hxl⟩
        clear hL6 hx6 hob hob' hS6 hS4 hbq4 hbk4 h9 hle hxl hbc6 HOK
        go_wp2_with fail
        refine hgr.mono ?_
        rintro e V7 ⟨q, q', s7, O7, g7, dl, fp, fga, fgn, fgc, rfl, hsr, hRB, hdr, hL7, hfp, hfr⟩
        dsimp only
        obtain ⟨u1, u2, u3, u4⟩ := gr_ok HI4.out HLE.out.2 hsr hRB hdr (by rw [HXS.out]; exact HBL.out.chk HLE.out.1)
        rw [HBL.out.nam] at u4
        rw [u4] at hfr
        rw [u3] at hfp
        rw [u1]
        subst hfp
        have hL7' := hL7.ren HL6.out.kp
        have HL7 := hid_of hL7'
        have HI7 := hid_of u2
        have HFR := hid_of hfr
        obtain ⟨IE, eIE⟩ : ∃ IE, IE = itemE dl (p : Int) fga fgn fgc := ⟨_, rfl⟩
        have ie1 : nth IE 1 = some (.int .i64 (p : Int)) := by rw [eIE]; rfl
        have ie2 : nth IE 2 = some (.slice fga fgn fgc) := by rw [eIE]; rfl
        have iel : IE.length = 3 := by rw [eIE]; rfl
        have iel1 : 1 < IE.length := by omega
        have iel2 : 2 < IE.length := by omega
        have iok : okCells 3 IE = true := by rw [eIE]; rfl
        rw [← eIE]
        clear hgr hsr hRB hdr hL7 hfr u1 u2 u3 u4 hL7' HL6 HLE eIE HXS
        go_upto_region 23 with fail
        refine wp_world (fun V => V7.Extends V ∧ blk V V7.heap.size = some IE) ⟨extends_alloc (ext_Ext (Ext.refl _)) _, by rw [blk_alloc, if_pos rfl]; try exact congrArg some (splice_all _ _ (by rw [iel]; rfl))⟩ ?_
        rintro V8 ⟨hx8, hb14⟩
        obtain ⟨b14, e14⟩ : ∃ b14, b14 = V7.heap.size := ⟨_, rfl⟩
        rw [← e14] at hb14 ⊢
        have hL8 := HL7.out.grow hx8
        have hbq8 : blk V8 bq = some Cq := (hL8.blk HYQ.out.1 HYQ.out.2).1
        have hbk8 : blk V8 bk = some Ck := (hL8.blk HBK.out.1 HBK.out.2).1
        have hs8 : Sub (core B V2) V8.drew := fun b C hb => (Sub.core _ _) b C (hL8.sub b C hb)
        have hsm := same_any V8.drew fga xa fgn xn fgc xc (by have h9 := HFR.out.1; omega) r r (HFR.out.sub (Sub.ext (hx8.trans (extends_drewN (ext_Ext (Ext.refl _)) 1)))) (HROW.out.sub hs8)
        have e9 : decide (r = r) = true := decide_eq_true rfl
        rw [e9] at hsm
        have HL8 := hid_of hL8
        clear hx8 e14 hL8 hs8 e9
        have hS8 : blk V8.drew b14 = some IE ∧ blk V8.drew bq = some Cq ∧ blk V8.drew bk = some Ck := ⟨hb14, hbq8, hbk8⟩
        repeat go_step
        refine wp_region_held_drew (S := fun W' => blk W' b14 = some IE ∧ blk W' bq = some Cq ∧ blk W' bk = some Ck) (by kernel_rfl) ⟨hb14, hbq8, hbk8⟩ (fun hHeld => ?_)
        refine wpAnyH_take (i := 0) (oi := ⟨_, _, _, _, _, _⟩) (v := ?_) rfl (by kernel_rfl) (by kernel_rfl) (by kernel_rfl) (fun _ _ _ h => h) (Or.inl ⟨by rfl, ?_⟩) (by assumption) ?_
        rotate_left 1
        · intro W' hSw
          obtain ⟨hS1, hS2, hS3⟩ := hSw
          go_simp
          try with_reducible rfl
        try simp only [Act.put, List.setIfInBounds_toArray, List.set_cons_zero, List.set_cons_succ]
        refine wpAnyH_take (i := 1) (oi := ⟨_, _, _, _, _, _⟩) (v := ?_) rfl (by kernel_rfl) (by kernel_rfl) (by kernel_rfl) (fun _ _ _ h => h) (Or.inl ⟨by rfl, ?_⟩) (by assumption) ?_
        rotate_left 1
        · intro W' hSw
          obtain ⟨hS1, hS2, hS3⟩ := hSw
          go_simp
          try with_reducible rfl
        try simp only [Act.put, List.setIfInBounds_toArray, List.set_cons_zero, List.set_cons_succ]
        refine wpAnyH_take (i := 2) (oi := ⟨_, _, _, _, _, _⟩) (v := ?_) rfl (by kernel_rfl) (by kernel_rfl) (by kernel_rfl) (fun _ _ _ h => h) (Or.inl ⟨by rfl, ?_⟩) (by assumption) ?_
        rotate_left 1
        · intro W' hSw
          obtain ⟨hS1, hS2, hS3⟩ := hSw
          go_simp
          try with_reducible rfl
        try simp only [Act.put, List.setIfInBounds_toArray, List.set_cons_zero, List.set_cons_succ]
        refine wpAnyH_take (i := 3) (oi := ⟨_, _, _, _, _, _⟩) (v := ?_) rfl (by kernel_rfl) (by kernel_rfl) (by kernel_rfl) (fun _ _ _ h => h) (Or.inl ⟨by rfl, ?_⟩) (by assumption) ?_
        rotate_left 1
        · intro W' hSw
          obtain ⟨hS1, hS2, hS3⟩ := hSw
          go_simp
          try with_reducible rfl
        try simp only [Act.put, List.setIfInBounds_toArray, List.set_cons_zero, List.set_cons_succ]
        refine wpAnyH_take (i := 4) (oi := ⟨_, _, _, _, _, _⟩) (v := ?_) rfl (by kernel_rfl) (by kernel_rfl) (by kernel_rfl) (fun _ _ _ h => h) (Or.inl ⟨by rfl, ?_⟩) (by assumption) ?_
        rotate_left 1
        · intro W' hSw
          obtain ⟨hS1, hS2, hS3⟩ := hSw
          go_simp
          try with_reducible rfl
        try simp only [Act.put, List.setIfInBounds_toArray, List.set_cons_zero, List.set_cons_succ]
        refine wpAnyH_take (i := 5) (oi := ⟨_, _, _, _, _, _⟩) (v := ?_) rfl (by kernel_rfl) (by kernel_rfl) (by kernel_rfl) (fun _ _ _ h => h) (Or.inl ⟨by rfl, ?_⟩) (by assumption) ?_
        rotate_left 1
        · intro W' hSw
          obtain ⟨hS1, hS2, hS3⟩ := hSw
          go_simp
          try with_reducible rfl
        try simp only [Act.put, List.setIfInBounds_toArray, List.set_cons_zero, List.set_cons_succ]
        refine wpAnyH_take (i := 6) (oi := ⟨_, _, _, _, _, _⟩) (v := ?_) rfl (by kernel_rfl) (by kernel_rfl) (by kernel_rfl) (fun _ _ _ h => h) (Or.inl ⟨by rfl, ?_⟩) (by assumption) ?_
        rotate_left 1
        · intro W' hSw
          obtain ⟨hS1, hS2, hS3⟩ := hSw
          go_simp
          try with_reducible rfl
        try simp only [Act.put, List.setIfInBounds_toArray, List.set_cons_zero, List.set_cons_succ]
        refine wpAnyH_take (i := 7) (oi := ⟨_, _, _, _, _, _⟩) (v := ?_) rfl (by kernel_rfl) (by kernel_rfl) (by kernel_rfl) (fun _ _ _ h => h) (Or.inl ⟨by rfl, ?_⟩) (by assumption) ?_
        rotate_left 1
        · intro W' hSw
          obtain ⟨hS1, hS2, hS3⟩ := hSw
          go_simp
          try with_reducible rfl
        try simp only [Act.put, List.setIfInBounds_toArray, List.set_cons_zero, List.set_cons_succ]
        refine wpAnyH_take (i := 8) (oi := ⟨_, _, _, _, _, _⟩) (v := ?_) rfl (by kernel_rfl) (by kernel_rfl) (by kernel_rfl) (fun _ _ _ h => h) (Or.inl ⟨by rfl, ?_⟩) (by assumption) ?_
        rotate_left 1
        · intro W' hSw
          obtain ⟨hS1, hS2, hS3⟩ := hSw
          go_simp
          try with_reducible rfl
        try simp only [Act.put, List.setIfInBounds_toArray, List.set_cons_zero, List.set_cons_succ]
        refine wpAnyH_take (i := 9) (oi := ⟨_, _, _, _, _, _⟩) (v := ?_) rfl (by kernel_rfl) (by kernel_rfl) (by kernel_rfl) (fun _ _ _ h => h) (Or.inl ⟨by rfl, ?_⟩) (by assumption) ?_
        rotate_left 1
        · intro W' hSw
          obtain ⟨hS1, hS2, hS3⟩ := hSw
          go_simp
          try with_reducible rfl
        try simp only [Act.put, List.setIfInBounds_toArray, List.set_cons_zero, List.set_cons_succ]
        refine wpAnyH_take (i := 10) (oi := ⟨_, _, _, _, _, _⟩) (v := ?_) rfl (by kernel_rfl) (by kernel_rfl) (by kernel_rfl) (fun _ _ _ h => h) (Or.inl ⟨by rfl, ?_⟩) (by assumption) ?_
        rotate_left 1
        · intro W' hSw
          obtain ⟨hS1, hS2, hS3⟩ := hSw
          go_simp
          try with_reducible rfl
        try simp only [Act.put, List.setIfInBounds_toArray, List.set_cons_zero, List.set_cons_succ]
        refine wpAnyH_take (i := 11) (oi := ⟨_, _, _, _, _, _⟩) (v := ?_) rfl (by kernel_rfl) (by kernel_rfl) (by kernel_rfl) (fun _ _ _ h => h) (Or.inl ⟨by rfl, ?_⟩) (by assumption) ?_
        rotate_left 1
        · intro W' hSw
          obtain ⟨hS1, hS2, hS3⟩ := hSw
          go_simp
          try with_reducible rfl
        try simp only [Act.put, List.setIfInBounds_toArray, List.set_cons_zero, List.set_cons_succ]
        refine wpAnyH_take (i := 12) (oi := ⟨_, _, _, _, _, _⟩) (v := ?_) rfl (by kernel_rfl) (by kernel_rfl) (by kernel_rfl) (fun _ _ _ h => h) (Or.inl ⟨by rfl, ?_⟩) (by assumption) ?_
        rotate_left 1
        · intro W' hSw
          obtain ⟨hS1, hS2, hS3⟩ := hSw
          go_simp
          try with_reducible rfl
        try simp only [Act.put, List.setIfInBounds_toArray, List.set_cons_zero, List.set_cons_succ]
        refine wpAnyH_take (i := 13) (oi := ⟨_, _, _, _, _, _⟩) (v := ?_) rfl (by kernel_rfl) (by kernel_rfl) (by kernel_rfl) (fun _ _ _ h => h) (Or.inl ⟨by rfl, ?_⟩) (by assumption) ?_
        rotate_left 1
        · intro W' hSw
          obtain ⟨hS1, hS2, hS3⟩ := hSw
          go_simp
          try with_reducible rfl
        try simp only [Act.put, List.setIfInBounds_toArray, List.set_cons_zero, List.set_cons_succ]
        refine wpAnyH_take (i := 14) (oi := ⟨_, _, _, _, _, _⟩) (v := ?_) rfl (by kernel_rfl) (by kernel_rfl) (by kernel_rfl) (fun _ _ _ h => h) (Or.inl ⟨by rfl, ?_⟩) (by assumption) ?_
        rotate_left 1
        · intro W' hSw
          obtain ⟨hS1, hS2, hS3⟩ := hSw
          go_simp
          try with_reducible rfl
        try simp only [Act.put, List.setIfInBounds_toArray, List.set_cons_zero, List.set_cons_succ]
        refine wpAnyH_take (i := 15) (oi := ⟨_, _, _, _, _, _⟩) (v := ?_) rfl (by kernel_rfl) (by kernel_rfl) (by kernel_rfl) (fun _ _ _ h => h) (Or.inl ⟨by rfl, ?_⟩) (by assumption) ?_
        rotate_left 1
        · intro W' hSw
          obtain ⟨hS1, hS2, hS3⟩ := hSw
          go_simp
          try with_reducible rfl
        try simp only [Act.put, List.setIfInBounds_toArray, List.set_cons_zero, List.set_cons_succ]
        refine wpAnyH_take (i := 16) (oi := ⟨_, _, _, _, _, _⟩) (v := ?_) rfl (by kernel_rfl) (by kernel_rfl) (by kernel_rfl) (fun _ _ _ h => h) (Or.inl ⟨by rfl, ?_⟩) (by assumption) ?_
        rotate_left 1
        · intro W' hSw
          obtain ⟨hS1, hS2, hS3⟩ := hSw
          go_simp
          try with_reducible rfl
        try simp only [Act.put, List.setIfInBounds_toArray, List.set_cons_zero, List.set_cons_succ]
        refine wpAnyH_take (i := 17) (oi := ⟨_, _, _, _, _, _⟩) (v := ?_) rfl (by kernel_rfl) (by kernel_rfl) (by kernel_rfl) (fun _ _ _ h => h) (Or.inl ⟨by rfl, ?_⟩) (by assumption) ?_
        rotate_left 1
        · intro W' hSw
          obtain ⟨hS1, hS2, hS3⟩ := hSw
          go_simp
          try with_reducible rfl
        try simp only [Act.put, List.setIfInBounds_toArray, List.set_cons_zero, List.set_cons_succ]
        refine wpAnyH_ready (rs := [18]) (by kernel_rfl) (by simp) ?_
        refine AllReadyH.cons (o := ⟨_, _, _, _, _, _⟩) rfl (fun K' hK => ?_) AllReadyH.nil
        go_simp
        refine hsm.mono ?_
        rintro e V9' ⟨rfl, k9, e9⟩
        dsimp only
        obtain ⟨V9, hV9⟩ : ∃ Z, Z = V9' := ⟨_, rfl⟩
        rw [← hV9]
        have hS9 : blk V9 b14 = some IE ∧ blk V9 bq = some Cq ∧ blk V9 bk = some Ck := by rw [hV9, e9]; exact hS8
        have HPN : Hid (p6S B V2 bs (M + 5120 * (p : Int) + 10 * ((j + 1 : Nat) : Int)) t V9) := by
          rw [hV9, e9]
          exact ⟨_, _, _, (((HL8.out.drewN 1).drewN k9)).le (by omega), HI7.out⟩
        clear e9 hV9 hsm
        refine hK.out _ _ hS9 (fun hHeld => ?_)
        clear hK K'
        try simp only [Act.put, List.setIfInBounds_toArray, List.set_cons_zero, List.set_cons_succ]
        refine wpAnyH_take (i := 19) (oi := ⟨_, _, _, _, _, _⟩) (v := ?_) rfl (by kernel_rfl) (by kernel_rfl) (by kernel_rfl) (fun _ _ _ h => h) (Or.inl ⟨by rfl, ?_⟩) (by assumption) ?_
        rotate_left 1
        · intro W' hSw
          obtain ⟨hS1, hS2, hS3⟩ := hSw
          go_simp
          try with_reducible rfl
        try simp only [Act.put, List.setIfInBounds_toArray, List.set_cons_zero, List.set_cons_succ]
        refine wpAnyH_take (i := 20) (oi := ⟨_, _, _, _, _, _⟩) (v := ?_) rfl (by kernel_rfl) (by kernel_rfl) (by kernel_rfl) (fun _ _ _ h => h) (Or.inl ⟨by rfl, ?_⟩) (by assumption) ?_
        rotate_left 1
        · intro W' hSw
          obtain ⟨hS1, hS2, hS3⟩ := hSw
          go_simp
          try with_reducible rfl
        try simp only [Act.put, List.setIfInBounds_toArray, List.set_cons_zero, List.set_cons_succ]
        refine wpAnyH_done (by kernel_rfl) ?_ _
        clear hHeld hS8
        go_wp2_with fail
        refine ⟨rfl, rfl, ⟨⟨rfl, rfl, rfl, rfl, rfl⟩, j + 1, by omega, ?_, HPN⟩, ?_⟩
        · show Value.int .i64 _ = _
          go_num
        · show yn - (intOf (Value.int .i64 _)).toNat < yn - (intOf (G3 11)).toNat
          rw [H11.out]
          simp [intOf]; omega
  have hin' : (i : Int) < (N : Int) := by omega
  have i0 : (0 : Int) ≤ (i : Int) := by omega
  have i2 : ((i : Int)).toNat = i := by omega
  obtain ⟨x, raw, br, CR, rfl, hbr, hobr, hcl, hnr, hrl, hdx⟩ := HBEG.out.at hin
  have hbrV := (hJM.ls.blk hbr hobr).1
  have HBR : Hid (blk W1 br = some CR ∧ Ob br = .no) := ⟨hbr, hobr⟩
  have HDX := hid_of hdx
  have HRL := hid_of hrl
  have hser := HJM.out.ls.serve (by omega) x raw (hdx.sub HJM.out.ls.sub) hrl
  obtain ⟨xa, xn, xc⟩ := x
  dsimp only at hnr hser
  have hil : i < CR.length := by omega
  clear hbr hobr hdx hrl hJM hcl
  go_wp2_with fail
  refine hser.mono ?_
  rintro e V2 ⟨ra, rn, rc, q, s', O', g', rfl, hsr, hRB, hK, hL2, hBs, hrc1, hrc2⟩
  dsimp only
  have hbr2 : blk V2 br = some CR := (hL2.blk HBR.out.1 HBR.out.2).1
  have hmod := HJM.out.model HRL.out hsr hK hL2 ⟨xa, xn, xc⟩ ((HDX.out.sub hL2.sub).sub (Sub.core _ _))
  dsimp only at hmod
  clear hser hsr hRB hK hL2 hBs hrc1 hrc2 hbrV
  go_wp2_with fail
  refine hmod.mono ?_
  rintro e V3 ⟨a3, n3, c3, m', O2, rfl, hJ2, hMv, hn3, hB3, hsub⟩
  dsimp only
  have HJN : Hid (∃ s m O g, JM Ob W1 bs bm (1000 + 10 * ((i + 1 : Nat) : Int)) s m O g V3 ∧ MsX m) := by
    refine ⟨s', m', O2, g', ?_, hMv.msx HML.out⟩
    rw [show (1000 : Int) + 10 * ((i + 1 : Nat) : Int) = 1000 + 10 * (i : Int) + 10 from by omega]
    exact hJ2
  clear hmod hJ2 hMv hn3 hB3 hsub
  go_wp2_with fail
  refine ⟨rfl, rfl, ⟨rfl, rfl, rfl, i + 1, by omega, ?_, HJN⟩, ?_⟩
  · show Value.int .i64 _ = _
    go_num
  · show N - (intOf (Value.int .i64 _)).toNat < N - (intOf (F 6)).toNat
    rw [H6.out]
    simp [intOf]; omega
end Go.Proofs.Qxb6500787aGreat
