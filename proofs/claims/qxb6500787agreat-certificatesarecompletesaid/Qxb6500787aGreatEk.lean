import Derived.Test.Qxb6500787aGreatEj
import Derived.Test.Qxb6500787aGreatBc
import Derived.Test.Qxb6500787aGreatPr

import Derived.StillTailTactics
import Derived.Deep.QuietTactic
import Derived.BigQuiet
import Derived.Deep.RegionHeld
import Derived.Deep.CutRange
import Derived.Laws.ResultCell
import Derived.Laws.Rows
import Derived.DeepKeys
import Derived.DataBytes
import Derived.Laws.StructEq
import Derived.Laws.AppendOwn
import Derived.Laws.MakeOwn
import Derived.Lib.AppendStr
set_option linter.unusedSimpArgs false
set_option linter.unusedVariables false
namespace Go.Proofs.Qxb6500787aGreat
open Go.RowKit Go.Blk
attribute [local go_sem ↓] execOp_load execOp_store execOp_alloc
attribute [local go_sem] Tryz.ld26 Tryz.st26 Tryz.ld27 Tryz.st27 Tryz.ld28 Tryz.st28 Tryz.ld3 Tryz.st3 Tryz.ld29 Tryz.st29 Tryz.ld44 Tryz.st44 Tryz.ld4 Tryz.st4 Tryz.ld50 Tryz.st50 Tryz.ld32 Tryz.st32 Tryz.ld49 Tryz.st49 Tryz.ld68 Tryz.st68 Tryz.ld9 Tryz.st9 Tryz.ld40 Tryz.st40 Tryz.ld138 Tryz.st138 Tryz.ld139 Tryz.st139 Tryz.ld146 Tryz.st146 Tryz.ld183 Tryz.st183 Tryz.ld184 Tryz.st184 Tryz.ld192 Tryz.st192 Tryz.ld195 Tryz.st195 Tryz.ld217 Tryz.st217 Tryz.ld159 Tryz.st159 Tryz.ld142 Tryz.st142 Tryz.ld2 Tryz.st2 Tryz.ld5 Tryz.st5 Tryz.ld12 Tryz.st12 Tryz.ld21 Tryz.st21 Tryz.ld22 Tryz.st22 Tryz.ld24 Tryz.st24 Tryz.ld58 Tryz.st58 Tryz.ld97 Tryz.st97 Tryz.ld101 Tryz.st101 Tryz.ld116 Tryz.st116 Tryz.ld121 Tryz.st121 Tryz.ld135 Tryz.st135 Tryz.ld136 Tryz.st136 Tryz.ld143 Tryz.st143 Tryz.ld148 Tryz.st148 Tryz.ld154 Tryz.st154 Tryz.ld173 Tryz.st173 Tryz.ld187 Tryz.st187 Tryz.ld222 Tryz.st222 Tryz.ld241 Tryz.st241 Tryz.ld248 Tryz.st248 Tryz.ld268 Tryz.st268 Tryz.ld272 Tryz.st272 Tryz.ld153 Tryz.st153 Tryz.ld255 Tryz.st255 Tryz.ld256 Tryz.st256 Tryz.ld129 Tryz.st129 Tryz.ld152 Tryz.st152 Tryz.ld31 Tryz.st31 Tryz.ld46 Tryz.st46 Tryz.ld52 Tryz.st52 Tryz.ld54 Tryz.st54 Tryz.ld60 Tryz.st60 Tryz.ld70 Tryz.st70 Tryz.ld74 Tryz.st74 Tryz.ld93 Tryz.st93 Tryz.ld141 Tryz.st141 Tryz.ld151 Tryz.st151 Tryz.ld170 Tryz.st170 Tryz.ld186 Tryz.st186 Tryz.ld189 Tryz.st189 Tryz.ld194 Tryz.st194 Tryz.ld197 Tryz.st197 Tryz.ld219 Tryz.st219 Tryz.ld224 Tryz.st224 Tryz.ld230 Tryz.st230 Tryz.ld235 Tryz.st235 Tryz.ld243 Tryz.st243 Tryz.ld247 Tryz.st247 Tryz.ld252 Tryz.st252 Tryz.ld258 Tryz.st258 Tryz.al153 Tryz.al255 Tryz.al256 Tryz.al129 Tryz.al152 Tryz.al31 Tryz.al46 Tryz.al52 Tryz.al54 Tryz.al60 Tryz.al70 Tryz.al74 Tryz.al93 Tryz.al141 Tryz.al151 Tryz.al170 Tryz.al186 Tryz.al189 Tryz.al194 Tryz.al197 Tryz.al219 Tryz.al224 Tryz.al230 Tryz.al235 Tryz.al243 Tryz.al247 Tryz.al252 Tryz.al258
attribute [local go_sem] Request.length_enc Request.ok_enc Request.all_get Request.all_set Request.kind_get Request.kind_set Request.blob_get Request.blob_set Request.items_get Request.items_set Request.pred_get Request.pred_set Request.slots_get Request.slots_set Trace.length_enc Trace.ok_enc Trace.all_get Trace.all_set Trace.op_get Trace.op_set Trace.calls_get Trace.calls_set Item.length_enc Item.ok_enc Item.all_get Item.all_set Item.del_get Item.del_set Item.pred_get Item.pred_set Item.args_get Item.args_set Reply.length_enc Reply.ok_enc Reply.all_get Reply.all_set Reply.code_get Reply.code_set Reply.kind_get Reply.kind_set Reply.index_get Reply.index_set Reply.yes_get Reply.yes_set Reply.preds_get Reply.preds_set Reply.rules_get Reply.rules_set Reply.arity_get Reply.arity_set Reply.rows_get Reply.rows_set Reply.fact_get Reply.fact_set Reply.fact_del_get Reply.fact_del_set Reply.fact_pred_get Reply.fact_pred_set Reply.fact_args_get Reply.fact_args_set GEntry.length_enc GEntry.ok_enc GEntry.all_get GEntry.all_set GEntry.seq_get GEntry.seq_set GEntry.kind_get GEntry.kind_set GEntry.code_get GEntry.code_set GOp.length_enc GOp.ok_enc GOp.all_get GOp.all_set GOp.kind_get GOp.kind_set GOp.raw_get GOp.raw_set Reader.length_enc Reader.ok_enc Reader.all_get Reader.all_set Reader.buf_get Reader.buf_set Reader.at__get Reader.at__set Slot.length_enc Slot.ok_enc Slot.all_get Slot.all_set Slot.bound_get Slot.bound_set Slot.name_get Slot.name_set Session.length_enc Session.ok_enc Session.all_get Session.all_set Session.svc_get Session.svc_set Session.buf_get Session.buf_set Session.closed_get Session.closed_set GProgram.length_enc GProgram.ok_enc GProgram.all_get GProgram.all_set GProgram.pool_get GProgram.pool_set GProgram.preds_get GProgram.preds_set GProgram.rules_get GProgram.rules_set GProgram.strata_get GProgram.strata_set PredInfo.length_enc PredInfo.ok_enc PredInfo.all_get PredInfo.all_set PredInfo.arity_get PredInfo.arity_set PredInfo.base_get PredInfo.base_set PredInfo.stratum_get PredInfo.stratum_set Change.length_enc Change.ok_enc Change.all_get Change.all_set Change.del_get Change.del_set Change.pred_get Change.pred_set Change.t_get Change.t_set Store.length_enc Store.ok_enc Store.all_get Store.all_set Store.names_get Store.names_set Store.arity_get Store.arity_set Store.rows_get Store.rows_set Src.length_enc Src.ok_enc Src.all_get Src.all_set Src.b_get Src.b_set Src.at__get Src.at__set Atom.length_enc Atom.ok_enc Atom.all_get Atom.all_set Atom.pred_get Atom.pred_set Atom.args_get Atom.args_set GRule.length_enc GRule.ok_enc GRule.all_get GRule.all_set GRule.head_get GRule.head_set GRule.body_get GRule.body_set GRule.head_pred_get GRule.head_pred_set GRule.head_args_get GRule.head_args_set Cert.length_enc Cert.ok_enc Cert.all_get Cert.all_set Cert.names_get Cert.names_set Cert.nodes_get Cert.nodes_set Fact.length_enc Fact.ok_enc Fact.all_get Fact.all_set Fact.pred_get Fact.pred_set Fact.t_get Fact.t_set Literal.length_enc Literal.ok_enc Literal.all_get Literal.all_set Literal.neg_get Literal.neg_set Literal.atom_get Literal.atom_set Literal.atom_pred_get Literal.atom_pred_set Literal.atom_args_get Literal.atom_args_set Engine.length_enc Engine.ok_enc Engine.all_get Engine.all_set Engine.prog_get Engine.prog_set Engine.st_get Engine.st_set SrcCertm.length_enc SrcCertm.ok_enc SrcCertm.all_get SrcCertm.all_set SrcCertm.b_get SrcCertm.b_set SrcCertm.at__get SrcCertm.at__set GNode.length_enc GNode.ok_enc GNode.all_get GNode.all_set GNode.rule_get GNode.rule_set GNode.pred_get GNode.pred_set GNode.vals_get GNode.vals_set GNode.refs_get GNode.refs_set Term.length_enc Term.ok_enc Term.all_get Term.all_set Term.var_get Term.var_set Term.n_get Term.n_set Env.length_enc Env.ok_enc Env.all_get Env.all_set Env.val_get Env.val_set Env.set_get Env.set_set
attribute [local go_sem] size_put size_ext blk_put free_put blk_alloc free_alloc blk_drew free_drew blk_ext free_ext lookOr_some putOr_some segAt_some cellAt_some storeIn_some put_put put_alloc_new length_arr ok_arr_u8 ok_arr_u32 ok_arr_u64 ok_arr_i64 ok_arr_sl cellsV_agg cellsV_int cellsV_bool cellsV_string cellsV_pointer cellsV_slice cellsV_sl ok_int ok_bool ok_string ok_pointer ok_slice ok_sl toList_arr seg_arr set_arr nth_splice nth_splice0 seg_splice seg_splice0 splice_splice splice_splice0 length_splice_if
attribute [local go_sem ↓] execOp_box
attribute [local go_sem] box_run nth_arr_u8 put_arr_u8 blk_drewN free_drewN put_drewN blk_raw free_raw

def l3I (Ob : Own) (Wb : World) (bs bm : Nat) (A : Option Addr) (N Cp : Nat) (f : Nat → Value) (V : World) : Prop := f 3 = .pointer (some ⟨bs, 0, none⟩) ∧ f 4 = .pointer (some ⟨bm, 0, none⟩) ∧ f 5 = .slice A N Cp ∧ ∃ i : Nat, i ≤ N ∧ f 6 = .int .i64 (i : Nat) ∧ Hid (∃ s m O g, JM Ob Wb bs bm (1000 + 10 * (i : Int)) s m O g V)
set_option maxRecDepth 100000 in
theorem zframe34 (f : Nat → Value) : frameN 34 f = #[f 0, f 1, f 2, f 3, f 4, f 5, f 6, f 7, f 8, f 9, f 10, f 11, f 12, f 13, f 14, f 15, f 16, f 17, f 18, f 19, f 20, f 21, f 22, f 23, f 24, f 25, f 26, f 27, f 28, f 29, f 30, f 31, f 32, f 33] := by kernel_rfl
set_option maxRecDepth 40000 in
set_option maxHeartbeats 1000000 in
theorem refines_walk (w : World) (a : Option Addr) (len cap : Nat) (g : Nat → GOp) (dt : Nat → List UInt8) (hS : ScriptAt w a len cap g dt) : Calls Tryz.prog 3 #[.slice a len cap] w fun e w' => e = .returned (.bool true) ∧ w.Extends w' := by
  have HS : Hid (ScriptAt w a len cap g dt) := hS
  have hS0 := hS
  clear hS
  go_enter Tryz.func3, Tryz.ntmps3
  go_wp2_with fail
  refine (small_any w a len cap g dt hS0).mono ?_
  rintro e w1 ⟨⟨r, rfl, hr⟩, rfl⟩
  clear hS0
  dsimp only
  cases r
  · go_wp2_with fail
    go_ret
    exact ⟨rfl, ext_Ext (Ext.refl _)⟩
  obtain ⟨hlen, hsz⟩ := hr rfl
  have HSZ : Hid (∀ i, i < len → (g i).raw.len ≤ 65536) := hsz
  clear hr hsz
  go_wp2_with fail
  refine (new_any w1).mono ?_
  rintro e w2 ⟨rfl, e2⟩
  dsimp only
  have HE2 := hid_of e2
  clear e2
  go_wp2_with fail
  refine (mnew_any w2).mono ?_
  rintro e w3 ⟨rfl, e3⟩
  dsimp only
  have hsz2 : w2.heap.size = w1.heap.size + 1 := by rw [HE2.out, World.size_alloc]
  rw [HE2.out] at e3
  rw [hsz2]
  have HS3 : Hid (ScriptAt w3 a len cap g dt) := by
    show ScriptAt _ _ _ _ _ _
    rw [e3]
    exact (HS.out.mono (extends_alloc (ext_Ext (Ext.refl _)) _)).mono (extends_alloc (ext_Ext (Ext.refl _)) _)
  have HE3 := hid_of e3
  clear e3 hsz2 HE2
  go_wp2_with fail
  refine (sends_any w3 a len cap g dt HS3.out hlen).mono ?_
  rintro e W1 ⟨A, N, Cp, L, rfl, hat⟩
  dsimp only
  rw [HE3.out] at hat
  obtain ⟨hbeg, hjm⟩ := beg3_of HS.out hlen HSZ.out hat
  obtain ⟨bs, ebs⟩ : ∃ bs, bs = w1.heap.size := ⟨_, rfl⟩
  rw [← ebs] at hbeg hjm ⊢
  obtain ⟨bm, ebm⟩ : ∃ bm, bm = bs + 1 := ⟨_, rfl⟩
  rw [← ebm] at hjm ⊢
  obtain ⟨Ob, hOb⟩ : ∃ Ob, Ob = OL bs (.a 0 7) := ⟨_, rfl⟩
  rw [← hOb] at hbeg hjm
  have HBEG := hid_of hbeg
  have HJ0 : Hid (∃ s m O g, JM Ob W1 bs bm (1000 + 10 * ((0 : Nat) : Int)) s m O g W1) := ⟨_, _, _, _, hjm⟩
  have hN : N ≤ 65536 := hbeg.nn
  clear hat hbeg ebs hOb HS3 HE3 HSZ hjm ebm
  go_upto_region 6 with fail
  refine wp_loop_f 34 (l3I Ob W1 bs bm A N Cp) (fun f _ => N - (intOf (f 6)).toNat) rfl ⟨rfl, rfl, rfl, 0, by omega, rfl, HJ0⟩ ?_
  clear HJ0
  intro F V hrel
  obtain ⟨f3, f4, f5, i, hi, f6, HJ⟩ := hrel
  have H6 := hid_of f6
  rw [zframe34, f3, f4, f5, f6]
  clear f3 f4 f5 f6
  obtain ⟨s, m, O, g0, hJM⟩ := HJ.out
  have HJM := hid_of (hJM.drewN 1)
  clear HJ
  by_cases hin : i < N
  rotate_left 1
  · have hin' : ¬ (i : Int) < (N : Int) := by omega
    have HX := hid_of (kp_ext hJM.ls.kp HBEG.out.ex HBEG.out.old)
    clear hJM
    go_wp2_with fail
    go_ret
    exact ⟨rfl, HX.out⟩
  have hin' : (i : Int) < (N : Int) := by omega
  have i0 : (0 : Int) ≤ (i : Int) := by omega
  have i2 : ((i : Int)).toNat = i := by omega
  obtain ⟨x, raw, br, CR, rfl, hbr, hobr, hcl, hnr, hrl, hdx⟩ := HBEG.out.at hin
  have hbrV := (hJM.ls.blk hbr hobr).1
  have HBR : Hid (blk W1 br = some CR ∧ Ob br = .no) := ⟨hbr, hobr⟩
  have HDX := hid_of hdx
  have HRL := hid_of hrl
  have hser := HJM.out.ls.serve (by omega) x raw (hdx.sub HJM.out.ls.sub) hrl
  obtain ⟨xa, xn, xc⟩ := x
  dsimp only at hnr hser
  have hil : i < CR.length := by omega
  have hl31 : i + 1 ≤ CR.length := hcl
  clear hbr hobr hdx hrl hJM
  go_upto_region 8 with fail
  repeat go_step
  refine wp_region_held_drew (S := fun W' => blk W' br = some CR) (by kernel_rfl) hbrV (fun hHeld => ?_)
  refine wpAnyH_take (i := 0) (oi := ⟨_, _, _, _, _, _⟩) (v := ?_) rfl (by kernel_rfl) (by kernel_rfl) (by kernel_rfl) (fun _ _ _ h => h) (Or.inl ⟨by rfl, ?_⟩) (by assumption) ?_
  rotate_left 1
  · intro W' hSw
    go_simp
    try with_reducible rfl
  try simp only [Act.put, List.setIfInBounds_toArray, List.set_cons_zero, List.set_cons_succ]
  refine wpAnyH_take (i := 1) (oi := ⟨_, _, _, _, _, _⟩) (v := ?_) rfl (by kernel_rfl) (by kernel_rfl) (by kernel_rfl) (fun _ _ _ h => h) (Or.inl ⟨by rfl, ?_⟩) (by assumption) ?_
  rotate_left 1
  · intro W' hSw
    go_simp
    try with_reducible rfl
  try simp only [Act.put, List.setIfInBounds_toArray, List.set_cons_zero, List.set_cons_succ]
  refine wpAnyH_take (i := 2) (oi := ⟨_, _, _, _, _, _⟩) (v := ?_) rfl (by kernel_rfl) (by kernel_rfl) (by kernel_rfl) (fun _ _ _ h => h) (Or.inl ⟨by rfl, ?_⟩) (by assumption) ?_
  rotate_left 1
  · intro W' hSw
    go_simp
    try with_reducible rfl
  try simp only [Act.put, List.setIfInBounds_toArray, List.set_cons_zero, List.set_cons_succ]
  refine wpAnyH_take (i := 3) (oi := ⟨_, _, _, _, _, _⟩) (v := ?_) rfl (by kernel_rfl) (by kernel_rfl) (by kernel_rfl) (fun _ _ _ h => h) (Or.inl ⟨by rfl, ?_⟩) (by assumption) ?_
  rotate_left 1
  · intro W' hSw
    go_simp
    try with_reducible rfl
  try simp only [Act.put, List.setIfInBounds_toArray, List.set_cons_zero, List.set_cons_succ]
  refine wpAnyH_take (i := 4) (oi := ⟨_, _, _, _, _, _⟩) (v := ?_) rfl (by kernel_rfl) (by kernel_rfl) (by kernel_rfl) (fun _ _ _ h => h) (Or.inl ⟨by rfl, ?_⟩) (by assumption) ?_
  rotate_left 1
  · intro W' hSw
    go_simp
    try with_reducible rfl
  try simp only [Act.put, List.setIfInBounds_toArray, List.set_cons_zero, List.set_cons_succ]
  refine wpAnyH_take (i := 6) (oi := ⟨_, _, _, _, _, _⟩) (v := ?_) rfl (by kernel_rfl) (by kernel_rfl) (by kernel_rfl) (fun _ _ _ h => h) (Or.inl ⟨by rfl, ?_⟩) (by assumption) ?_
  rotate_left 1
  · intro W' hSw
    go_simp
    try with_reducible rfl
  try simp only [Act.put, List.setIfInBounds_toArray, List.set_cons_zero, List.set_cons_succ]
  refine wpAnyH_take (i := 7) (oi := ⟨_, _, _, _, _, _⟩) (v := ?_) rfl (by kernel_rfl) (by kernel_rfl) (by kernel_rfl) (fun _ _ _ h => h) (Or.inl ⟨by rfl, ?_⟩) (by assumption) ?_
  rotate_left 1
  · intro W' hSw
    go_simp
    try with_reducible rfl
  try simp only [Act.put, List.setIfInBounds_toArray, List.set_cons_zero, List.set_cons_succ]
  refine wpAnyH_take (i := 8) (oi := ⟨_, _, _, _, _, _⟩) (v := ?_) rfl (by kernel_rfl) (by kernel_rfl) (by kernel_rfl) (fun _ _ _ h => h) (Or.inl ⟨by rfl, ?_⟩) (by assumption) ?_
  rotate_left 1
  · intro W' hSw
    go_simp
    try with_reducible rfl
  try simp only [Act.put, List.setIfInBounds_toArray, List.set_cons_zero, List.set_cons_succ]
  refine wpAnyH_take (i := 9) (oi := ⟨_, _, _, _, _, _⟩) (v := ?_) rfl (by kernel_rfl) (by kernel_rfl) (by kernel_rfl) (fun _ _ _ h => h) (Or.inl ⟨by rfl, ?_⟩) (by assumption) ?_
  rotate_left 1
  · intro W' hSw
    go_simp
    try with_reducible rfl
  try simp only [Act.put, List.setIfInBounds_toArray, List.set_cons_zero, List.set_cons_succ]
  refine wpAnyH_take (i := 10) (oi := ⟨_, _, _, _, _, _⟩) (v := ?_) rfl (by kernel_rfl) (by kernel_rfl) (by kernel_rfl) (fun _ _ _ h => h) (Or.inl ⟨by rfl, ?_⟩) (by assumption) ?_
  rotate_left 1
  · intro W' hSw
    go_simp
    try with_reducible rfl
  try simp only [Act.put, List.setIfInBounds_toArray, List.set_cons_zero, List.set_cons_succ]
  refine wpAnyH_ready (rs := [5]) (by kernel_rfl) (by simp) ?_
  refine AllReadyH.cons (o := ⟨_, _, _, _, _, _⟩) rfl (fun K' hK => ?_) AllReadyH.nil
  go_simp
  refine hser.mono ?_
  rintro e V2 ⟨ra, rn, rc, q, s', O', g', rfl, hsr, hRB, hK, hL2, hBs, hrc1, hrc2⟩
  dsimp only
  have hbr2 : blk V2 br = some CR := (hL2.blk HBR.out.1 HBR.out.2).1
  have hmod := HJM.out.model HRL.out hsr hK hL2 ⟨xa, xn, xc⟩ ((HDX.out.sub hL2.sub).sub (Sub.core _ _))
  dsimp only at hmod
  have HRE : Hid (Bs (core O' V2) ra rn (encR' q) ∧ rn = (encR' q).length) := ⟨hBs, hBs.1.symm⟩
  have HRB : Hid (RepB q) := hRB
  clear hser hsr hRB hK hL2 hBs hrc1 hrc2
  refine hK.out _ _ hbr2 (fun hHeld => ?_)
  clear hK K'
  try simp only [Act.put, List.setIfInBounds_toArray, List.set_cons_zero, List.set_cons_succ]
  refine wpAnyH_ready (rs := [11]) (by kernel_rfl) (by simp) ?_
  refine AllReadyH.cons (o := ⟨_, _, _, _, _, _⟩) rfl (fun K' hK => ?_) AllReadyH.nil
  go_simp
  refine hmod.mono ?_
  rintro e V3 ⟨a3, n3, c3, m', O2, rfl, hJ2, hMv, hn3, hB3, hsub⟩
  dsimp only
  have hbr3 : blk V3 br = some CR := (hJ2.ls.blk HBR.out.1 HBR.out.2).1
  have hnn : n3 = rn := by rw [hn3, HRE.out.2]
  subst hnn
  have hsame := sameBytes_eq V3 ra a3 n3 rc c3 (by rw [hn3]; exact Nat.le_trans (encR'_le HRB.out).2 (by decide)) (encR' q) ((HRE.out.1.sub hsub).sub (Sub.core _ _)) hB3
  have HJ2 : Hid (∀ k, ∃ s m O g, JM Ob W1 bs bm (1000 + 10 * ((i + 1 : Nat) : Int)) s m O g (V3.drewN k)) := fun k => ⟨s', m', O2, g', by
    have h9 := hJ2.drewN k
    rw [show (1000 : Int) + 10 * ((i + 1 : Nat) : Int) = 1000 + 10 * (i : Int) + 10 from by omega]
    exact h9⟩
  clear hmod hJ2 hMv hn3 hB3 hsub
  refine hK.out _ _ hbr3 (fun hHeld => ?_)
  clear hK K'
  try simp only [Act.put, List.setIfInBounds_toArray, List.set_cons_zero, List.set_cons_succ]
  refine wpAnyH_ready (rs := [12]) (by kernel_rfl) (by simp) ?_
  refine AllReadyH.cons (o := ⟨_, _, _, _, _, _⟩) rfl (fun K' hK => ?_) AllReadyH.nil
  go_simp
  refine hsame.mono ?_
  rintro e V4 ⟨rfl, k4, e4⟩
  dsimp only
  have hbr4 : blk V4 br = some CR := by rw [e4]; exact hbr3
  have HJ1 : Hid (∃ s m O g, JM Ob W1 bs bm (1000 + 10 * ((i + 1 : Nat) : Int)) s m O g V4) := by
    show ∃ _, _
    rw [e4]; exact HJ2.out k4
  clear e4 HJ2 hsame
  refine hK.out _ _ hbr4 (fun hHeld => ?_)
  clear hK K'
  try simp only [Act.put, List.setIfInBounds_toArray, List.set_cons_zero, List.set_cons_succ]
  refine wpAnyH_take (i := 13) (oi := ⟨_, _, _, _, _, _⟩) (v := ?_) rfl (by kernel_rfl) (by kernel_rfl) (by kernel_rfl) (fun _ _ _ h => h) (Or.inl ⟨by rfl, ?_⟩) (by assumption) ?_
  rotate_left 1
  · intro W' hSw
    go_simp
    try with_reducible rfl
  try simp only [Act.put, List.setIfInBounds_toArray, List.set_cons_zero, List.set_cons_succ]
  refine wpAnyH_done (by kernel_rfl) ?_ _
  clear hHeld
  go_wp2_with fail
  refine ⟨rfl, rfl, ⟨rfl, rfl, rfl, i + 1, by omega, ?_, HJ1⟩, ?_⟩
  · show Value.int .i64 _ = _
    go_num
  · show N - (intOf (Value.int .i64 _)).toNat < N - (intOf (F 6)).toNat
    rw [H6.out]
    simp [intOf]; omega
end Go.Proofs.Qxb6500787aGreat
