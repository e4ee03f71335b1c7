import Derived.Test.Qxb6500787aGreatEm
import Derived.Test.Qxb6500787aGreatEs
import Derived.Test.Qxb6500787aGreatErc

import Derived.StillTailTactics
import Derived.Deep.QuietTactic
import Derived.BigQuiet
import Derived.Deep.RegionHeld
import Derived.Deep.CutRange
import Derived.Laws.ResultCell
import Derived.Laws.Rows
import Derived.DeepKeys
import Derived.DataBytes
import Derived.Laws.StructEq
import Derived.Laws.AppendOwn
import Derived.Laws.MakeOwn
import Derived.Lib.AppendStr
set_option linter.unusedSimpArgs false
set_option linter.unusedVariables false
namespace Go.Proofs.Qxb6500787aGreat
open Go.RowKit Go.Blk
attribute [local go_sem ↓] execOp_load execOp_store execOp_alloc
attribute [local go_sem] Tryz.ld26 Tryz.st26 Tryz.ld27 Tryz.st27 Tryz.ld28 Tryz.st28 Tryz.ld3 Tryz.st3 Tryz.ld29 Tryz.st29 Tryz.ld44 Tryz.st44 Tryz.ld4 Tryz.st4 Tryz.ld50 Tryz.st50 Tryz.ld32 Tryz.st32 Tryz.ld49 Tryz.st49 Tryz.ld68 Tryz.st68 Tryz.ld9 Tryz.st9 Tryz.ld40 Tryz.st40 Tryz.ld138 Tryz.st138 Tryz.ld139 Tryz.st139 Tryz.ld146 Tryz.st146 Tryz.ld183 Tryz.st183 Tryz.ld184 Tryz.st184 Tryz.ld192 Tryz.st192 Tryz.ld195 Tryz.st195 Tryz.ld217 Tryz.st217 Tryz.ld159 Tryz.st159 Tryz.ld142 Tryz.st142 Tryz.ld2 Tryz.st2 Tryz.ld5 Tryz.st5 Tryz.ld12 Tryz.st12 Tryz.ld21 Tryz.st21 Tryz.ld22 Tryz.st22 Tryz.ld24 Tryz.st24 Tryz.ld58 Tryz.st58 Tryz.ld97 Tryz.st97 Tryz.ld101 Tryz.st101 Tryz.ld116 Tryz.st116 Tryz.ld121 Tryz.st121 Tryz.ld135 Tryz.st135 Tryz.ld136 Tryz.st136 Tryz.ld143 Tryz.st143 Tryz.ld148 Tryz.st148 Tryz.ld154 Tryz.st154 Tryz.ld173 Tryz.st173 Tryz.ld187 Tryz.st187 Tryz.ld222 Tryz.st222 Tryz.ld241 Tryz.st241 Tryz.ld248 Tryz.st248 Tryz.ld268 Tryz.st268 Tryz.ld272 Tryz.st272 Tryz.ld153 Tryz.st153 Tryz.ld255 Tryz.st255 Tryz.ld256 Tryz.st256 Tryz.ld129 Tryz.st129 Tryz.ld152 Tryz.st152 Tryz.ld31 Tryz.st31 Tryz.ld46 Tryz.st46 Tryz.ld52 Tryz.st52 Tryz.ld54 Tryz.st54 Tryz.ld60 Tryz.st60 Tryz.ld70 Tryz.st70 Tryz.ld74 Tryz.st74 Tryz.ld93 Tryz.st93 Tryz.ld141 Tryz.st141 Tryz.ld151 Tryz.st151 Tryz.ld170 Tryz.st170 Tryz.ld186 Tryz.st186 Tryz.ld189 Tryz.st189 Tryz.ld194 Tryz.st194 Tryz.ld197 Tryz.st197 Tryz.ld219 Tryz.st219 Tryz.ld224 Tryz.st224 Tryz.ld230 Tryz.st230 Tryz.ld235 Tryz.st235 Tryz.ld243 Tryz.st243 Tryz.ld247 Tryz.st247 Tryz.ld252 Tryz.st252 Tryz.ld258 Tryz.st258 Tryz.al153 Tryz.al255 Tryz.al256 Tryz.al129 Tryz.al152 Tryz.al31 Tryz.al46 Tryz.al52 Tryz.al54 Tryz.al60 Tryz.al70 Tryz.al74 Tryz.al93 Tryz.al141 Tryz.al151 Tryz.al170 Tryz.al186 Tryz.al189 Tryz.al194 Tryz.al197 Tryz.al219 Tryz.al224 Tryz.al230 Tryz.al235 Tryz.al243 Tryz.al247 Tryz.al252 Tryz.al258
attribute [local go_sem] Request.length_enc Request.ok_enc Request.all_get Request.all_set Request.kind_get Request.kind_set Request.blob_get Request.blob_set Request.items_get Request.items_set Request.pred_get Request.pred_set Request.slots_get Request.slots_set Trace.length_enc Trace.ok_enc Trace.all_get Trace.all_set Trace.op_get Trace.op_set Trace.calls_get Trace.calls_set Item.length_enc Item.ok_enc Item.all_get Item.all_set Item.del_get Item.del_set Item.pred_get Item.pred_set Item.args_get Item.args_set Reply.length_enc Reply.ok_enc Reply.all_get Reply.all_set Reply.code_get Reply.code_set Reply.kind_get Reply.kind_set Reply.index_get Reply.index_set Reply.yes_get Reply.yes_set Reply.preds_get Reply.preds_set Reply.rules_get Reply.rules_set Reply.arity_get Reply.arity_set Reply.rows_get Reply.rows_set Reply.fact_get Reply.fact_set Reply.fact_del_get Reply.fact_del_set Reply.fact_pred_get Reply.fact_pred_set Reply.fact_args_get Reply.fact_args_set GEntry.length_enc GEntry.ok_enc GEntry.all_get GEntry.all_set GEntry.seq_get GEntry.seq_set GEntry.kind_get GEntry.kind_set GEntry.code_get GEntry.code_set GOp.length_enc GOp.ok_enc GOp.all_get GOp.all_set GOp.kind_get GOp.kind_set GOp.raw_get GOp.raw_set Reader.length_enc Reader.ok_enc Reader.all_get Reader.all_set Reader.buf_get Reader.buf_set Reader.at__get Reader.at__set Slot.length_enc Slot.ok_enc Slot.all_get Slot.all_set Slot.bound_get Slot.bound_set Slot.name_get Slot.name_set Session.length_enc Session.ok_enc Session.all_get Session.all_set Session.svc_get Session.svc_set Session.buf_get Session.buf_set Session.closed_get Session.closed_set GProgram.length_enc GProgram.ok_enc GProgram.all_get GProgram.all_set GProgram.pool_get GProgram.pool_set GProgram.preds_get GProgram.preds_set GProgram.rules_get GProgram.rules_set GProgram.strata_get GProgram.strata_set PredInfo.length_enc PredInfo.ok_enc PredInfo.all_get PredInfo.all_set PredInfo.arity_get PredInfo.arity_set PredInfo.base_get PredInfo.base_set PredInfo.stratum_get PredInfo.stratum_set Change.length_enc Change.ok_enc Change.all_get Change.all_set Change.del_get Change.del_set Change.pred_get Change.pred_set Change.t_get Change.t_set Store.length_enc Store.ok_enc Store.all_get Store.all_set Store.names_get Store.names_set Store.arity_get Store.arity_set Store.rows_get Store.rows_set Src.length_enc Src.ok_enc Src.all_get Src.all_set Src.b_get Src.b_set Src.at__get Src.at__set Atom.length_enc Atom.ok_enc Atom.all_get Atom.all_set Atom.pred_get Atom.pred_set Atom.args_get Atom.args_set GRule.length_enc GRule.ok_enc GRule.all_get GRule.all_set GRule.head_get GRule.head_set GRule.body_get GRule.body_set GRule.head_pred_get GRule.head_pred_set GRule.head_args_get GRule.head_args_set Cert.length_enc Cert.ok_enc Cert.all_get Cert.all_set Cert.names_get Cert.names_set Cert.nodes_get Cert.nodes_set Fact.length_enc Fact.ok_enc Fact.all_get Fact.all_set Fact.pred_get Fact.pred_set Fact.t_get Fact.t_set Literal.length_enc Literal.ok_enc Literal.all_get Literal.all_set Literal.neg_get Literal.neg_set Literal.atom_get Literal.atom_set Literal.atom_pred_get Literal.atom_pred_set Literal.atom_args_get Literal.atom_args_set Engine.length_enc Engine.ok_enc Engine.all_get Engine.all_set Engine.prog_get Engine.prog_set Engine.st_get Engine.st_set SrcCertm.length_enc SrcCertm.ok_enc SrcCertm.all_get SrcCertm.all_set SrcCertm.b_get SrcCertm.b_set SrcCertm.at__get SrcCertm.at__set GNode.length_enc GNode.ok_enc GNode.all_get GNode.all_set GNode.rule_get GNode.rule_set GNode.pred_get GNode.pred_set GNode.vals_get GNode.vals_set GNode.refs_get GNode.refs_set Term.length_enc Term.ok_enc Term.all_get Term.all_set Term.var_get Term.var_set Term.n_get Term.n_set Env.length_enc Env.ok_enc Env.all_get Env.all_set Env.val_get Env.val_set Env.set_get Env.set_set
attribute [local go_sem] size_put size_ext blk_put free_put blk_alloc free_alloc blk_drew free_drew blk_ext free_ext lookOr_some putOr_some segAt_some cellAt_some storeIn_some put_put put_alloc_new length_arr ok_arr_u8 ok_arr_u32 ok_arr_u64 ok_arr_i64 ok_arr_sl cellsV_agg cellsV_int cellsV_bool cellsV_string cellsV_pointer cellsV_slice cellsV_sl ok_int ok_bool ok_string ok_pointer ok_slice ok_sl toList_arr seg_arr set_arr nth_splice nth_splice0 seg_splice seg_splice0 splice_splice splice_splice0 length_splice_if
attribute [local go_sem ↓] execOp_box
attribute [local go_sem] box_run nth_arr_u8 put_arr_u8 blk_drewN free_drewN put_drewN blk_raw free_raw
theorem zrqC_sub {W V : World} {k : Int} {ba : Option Addr} {bn bc : Nat} {ia : Option Addr} {iN : Nat} {p : Int} {sa : Option Addr} {sn : Nat} {q : Rq} (h : RqC W k ba bn bc ia iN p sa sn q) (hs : Sub W V) : RqC V k ba bn bc ia iN p sa sn q := ⟨h.1, h.2.1.sub hs, h.2.2.1, h.2.2.2.1, h.2.2.2.2.1.sub hs, h.2.2.2.2.2.1, h.2.2.2.2.2.2.sub hs⟩
def l10I (Ob : Own) (Wb : World) (bs bm : Nat) (A : Option Addr) (N Cp : Nat) (f : Nat → Value) (V : World) : Prop := f 3 = .pointer (some ⟨bs, 0, none⟩) ∧ f 4 = .pointer (some ⟨bm, 0, none⟩) ∧ f 5 = .slice A N Cp ∧ ∃ i : Nat, i ≤ N ∧ f 6 = .int .i64 (i : Nat) ∧ Hid (∃ s m O g, JM Ob Wb bs bm (1000 + 10 * (i : Int)) s m O g V)
def p10A (bs bm b7 b9 : Nat) (A : Option Addr) (N Cp i : Nat) (va : Value) (f : Nat → Value) : Prop := f 3 = .pointer (some ⟨bs, 0, none⟩) ∧ f 4 = .pointer (some ⟨bm, 0, none⟩) ∧ f 5 = .slice A N Cp ∧ f 6 = .int .i64 (i : Nat) ∧ f 7 = .pointer (some ⟨b7, 0, none⟩) ∧ f 9 = .pointer (some ⟨b9, 0, none⟩) ∧ f 11 = va
def p10L2 (bs bm b7 b9 : Nat) (A : Option Addr) (N Cp i : Nat) (va : Value) (L : List Slt) (Ls : List NRow) (sn : Nat) (V0 : World) (f : Nat → Value) (V : World) : Prop := p10A bs bm b7 b9 A N Cp i va f ∧ ∃ k : Nat, k ≤ sn ∧ f 14 = .int .i64 (k : Nat) ∧ f 13 = .int .i64 (((Ls.take k).filter (fitB L)).length : Nat) ∧ Hid (∃ j, V = V0.drewN j)
def p10L3 (bs bm b7 b9 : Nat) (A : Option Addr) (N Cp i : Nat) (va v13 v14 : Value) (L : List Slt) (r : NRow) (ln : Nat) (V0 : World) (f : Nat → Value) (V : World) : Prop := p10A bs bm b7 b9 A N Cp i va f ∧ f 13 = v13 ∧ f 14 = v14 ∧ ∃ c : Nat, c ≤ ln ∧ f 16 = .int .i64 (c : Nat) ∧ f 15 = .bool (fitN L r c) ∧ Hid (∃ j, V = V0.drewN j)
def p10L4 (bs bm b7 b9 : Nat) (A : Option Addr) (N Cp i : Nat) (va v13 v14 : Value) (R : List NRow) (r : NRow) (rn : Nat) (V0 : World) (f : Nat → Value) (V : World) : Prop := p10A bs bm b7 b9 A N Cp i va f ∧ f 13 = v13 ∧ f 14 = v14 ∧ ∃ j : Nat, j ≤ rn ∧ f 18 = .int .i64 (j : Nat) ∧ f 17 = .bool (decide (r ∈ R.take j)) ∧ Hid (∃ j, V = V0.drewN j)
def p10L5 (bs bm b7 b9 : Nat) (A : Option Addr) (N Cp i : Nat) (va : Value) (rn : Nat) (V0 : World) (f : Nat → Value) (V : World) : Prop := p10A bs bm b7 b9 A N Cp i va f ∧ ∃ j : Nat, (j + 1 ≤ rn ∨ j = 0) ∧ f 19 = .int .i64 ((j + 1 : Nat) : Int) ∧ Hid (∃ j, V = V0.drewN j)
set_option maxRecDepth 100000 in
theorem zframe176 (f : Nat → Value) : frameN 176 f = #[f 0, f 1, f 2, f 3, f 4, f 5, f 6, f 7, f 8, f 9, f 10, f 11, f 12, f 13, f 14, f 15, f 16, f 17, f 18, f 19, f 20, f 21, f 22, f 23, f 24, f 25, f 26, f 27, f 28, f 29, f 30, f 31, f 32, f 33, f 34, f 35, f 36, f 37, f 38, f 39, f 40, f 41, f 42, f 43, f 44, f 45, f 46, f 47, f 48, f 49, f 50, f 51, f 52, f 53, f 54, f 55, f 56, f 57, f 58, f 59, f 60, f 61, f 62, f 63, f 64, f 65, f 66, f 67, f 68, f 69, f 70, f 71, f 72, f 73, f 74, f 75, f 76, f 77, f 78, f 79, f 80, f 81, f 82, f 83, f 84, f 85, f 86, f 87, f 88, f 89, f 90, f 91, f 92, f 93, f 94, f 95, f 96, f 97, f 98, f 99, f 100, f 101, f 102, f 103, f 104, f 105, f 106, f 107, f 108, f 109, f 110, f 111, f 112, f 113, f 114, f 115, f 116, f 117, f 118, f 119, f 120, f 121, f 122, f 123, f 124, f 125, f 126, f 127, f 128, f 129, f 130, f 131, f 132, f 133, f 134, f 135, f 136, f 137, f 138, f 139, f 140, f 141, f 142, f 143, f 144, f 145, f 146, f 147, f 148, f 149, f 150, f 151, f 152, f 153, f 154, f 155, f 156, f 157, f 158, f 159, f 160, f 161, f 162, f 163, f 164, f 165, f 166, f 167, f 168, f 169, f 170, f 171, f 172, f 173, f 174, f 175] := by kernel_rfl
attribute [local go_sem] Tryz.zl75 Tryz.zs75 Tryz.zl52 Tryz.zs52 bne_self_eq_false
set_option maxRecDepth 40000 in
set_option maxHeartbeats 20000000 in
theorem patterns_walk (w : World) (a : Option Addr) (len cap : Nat) (g : Nat → GOp) (dt : Nat → List UInt8) (hS : ScriptAt w a len cap g dt) : Calls Tryz.prog 10 #[.slice a len cap] w fun e w' => e = .returned (.bool true) ∧ w.Extends w' := by
  have HS : Hid (ScriptAt w a len cap g dt) := hS
  have hS0 := hS
  clear hS
  go_enter Tryz.func10, Tryz.ntmps10
  go_wp2_with fail
  refine (small_any w a len cap g dt hS0).mono ?_
  rintro e w1 ⟨⟨r, rfl, hr⟩, rfl⟩
  clear hS0
  dsimp only
  cases r
  · go_wp2_with fail
    go_ret
    exact ⟨rfl, ext_Ext (Ext.refl _)⟩
  obtain ⟨hlen, hsz⟩ := hr rfl
  have HSZ : Hid (∀ i, i < len → (g i).raw.len ≤ 65536) := hsz
  clear hr hsz
  go_wp2_with fail
  refine (new_any w1).mono ?_
  rintro e w2 ⟨rfl, e2⟩
  dsimp only
  have HE2 := hid_of e2
  clear e2
  go_wp2_with fail
  refine (mnew_any w2).mono ?_
  rintro e w3 ⟨rfl, e3⟩
  dsimp only
  have hsz2 : w2.heap.size = w1.heap.size + 1 := by rw [HE2.out, World.size_alloc]
  rw [HE2.out] at e3
  rw [hsz2]
  have HS3 : Hid (ScriptAt w3 a len cap g dt) := by
    show ScriptAt _ _ _ _ _ _
    rw [e3]
    exact (HS.out.mono (extends_alloc (ext_Ext (Ext.refl _)) _)).mono (extends_alloc (ext_Ext (Ext.refl _)) _)
  have HE3 := hid_of e3
  clear e3 hsz2 HE2
  go_wp2_with fail
  refine (sends_any w3 a len cap g dt HS3.out hlen).mono ?_
  rintro e W1 ⟨A, N, Cp, L, rfl, hat⟩
  dsimp only
  rw [HE3.out] at hat
  obtain ⟨hbeg, hjm⟩ := beg3_of HS.out hlen HSZ.out hat
  obtain ⟨bs, ebs⟩ : ∃ bs, bs = w1.heap.size := ⟨_, rfl⟩
  rw [← ebs] at hbeg hjm ⊢
  obtain ⟨bm, ebm⟩ : ∃ bm, bm = bs + 1 := ⟨_, rfl⟩
  rw [← ebm] at hjm ⊢
  obtain ⟨Ob, hOb⟩ : ∃ Ob, Ob = OL bs (.a 0 7) := ⟨_, rfl⟩
  rw [← hOb] at hbeg hjm
  have HBEG := hid_of hbeg
  have HJ0 : Hid (∃ s m O g, JM Ob W1 bs bm (1000 + 10 * ((0 : Nat) : Int)) s m O g W1) := ⟨_, _, _, _, hjm⟩
  have hN : N ≤ 65536 := hbeg.nn
  clear hat hbeg ebs hOb HS3 HE3 HSZ hjm ebm
  go_upto_region 6 with fail
  refine wp_loop_f 176 (l10I Ob W1 bs bm A N Cp) (fun f _ => N - (intOf (f 6)).toNat) rfl ⟨rfl, rfl, rfl, 0, by omega, rfl, HJ0⟩ ?_
  clear HJ0
  intro F V hrel
  obtain ⟨f3, f4, f5, i, hi, f6, HJ⟩ := hrel
  have H6 := hid_of f6
  rw [zframe176, f3, f4, f5, f6]
  clear f3 f4 f5 f6
  obtain ⟨s, m, O, g0, hJM⟩ := HJ.out
  have HJM := hid_of hJM
  clear HJ
  by_cases hin : i < N
  rotate_left 1
  · have hin' : ¬ (i : Int) < (N : Int) := by omega
    have HX := hid_of (kp_ext hJM.ls.kp HBEG.out.ex HBEG.out.old)
    clear hJM
    go_wp2_with fail
    go_ret
    exact ⟨rfl, HX.out⟩
  have hin' : (i : Int) < (N : Int) := by omega
  have i0 : (0 : Int) ≤ (i : Int) := by omega
  have i2 : ((i : Int)).toNat = i := by omega
  obtain ⟨x, raw, br, CR, rfl, hbr, hobr, hcl, hnr, hrl, hdx⟩ := HBEG.out.at hin
  have hbrV := (hJM.ls.blk hbr hobr).1
  have HBR : Hid (blk W1 br = some CR ∧ Ob br = .no) := ⟨hbr, hobr⟩
  have HDX := hid_of hdx
  have HRL := hid_of hrl
  have hdec := dec_both 19 (.inr rfl) V x raw ((hdx.sub HJM.out.ls.sub).sub (Sub.core _ _))
  obtain ⟨xa, xn, xc⟩ := x
  dsimp only at hnr hdec
  have hil : i < CR.length := by omega
  clear hbr hobr hdx hrl hJM hcl
  go_wp2_with fail
  refine hdec.mono ?_
  rintro e V2 ⟨k, ba, bn, bc, qa, qn, qc, p, sa, sn, sc, rfl, hRq, hx2⟩
  dsimp only
  obtain ⟨dc, hdc⟩ : ∃ dc, dc = (decF raw).1 := ⟨_, rfl⟩
  rw [← hdc]
  have HDC := hid_of hdc
  have HKQ := hid_of hRq.1
  have HRQ0 := hid_of hRq
  obtain ⟨RQ, hRQ⟩ : ∃ RQ, RQ = reqE k ba bn bc qa qn qc p sa sn sc := ⟨_, rfl⟩
  have q0 : nth RQ 0 = some (.int .i64 k) := by rw [hRQ]; rfl
  have q1 : nth RQ 1 = some (.slice ba bn bc) := by rw [hRQ]; rfl
  have q2 : nth RQ 2 = some (.slice qa qn qc) := by rw [hRQ]; rfl
  have q3 : nth RQ 3 = some (.int .i64 p) := by rw [hRQ]; rfl
  have q4 : nth RQ 4 = some (.slice sa sn sc) := by rw [hRQ]; rfl
  have ql3 : 3 < RQ.length := by rw [hRQ]; show 3 < 5; omega
  have ql4 : 4 < RQ.length := by rw [hRQ]; show 4 < 5; omega
  have ql0 : 0 < RQ.length := by rw [hRQ]; show 0 < 5; omega
  have ql1 : 1 < RQ.length := by rw [hRQ]; show 1 < 5; omega
  have ql2 : 2 < RQ.length := by rw [hRQ]; show 2 < 5; omega
  clear hdec hRq hdc
  go_upto_region 9 with fail
  refine wp_world (fun V' => V2.Extends V' ∧ blk V' V2.heap.size = some (reqE k ba bn bc qa qn qc p sa sn sc)) ⟨extends_alloc (ext_Ext (Ext.refl _)) _, by rw [blk_alloc, if_pos rfl]; try exact congrArg some (Request.all_set _ _)⟩ ?_
  rintro V5 ⟨hx3, hb7⟩
  obtain ⟨b7, e7⟩ : ∃ b7, b7 = V2.heap.size := ⟨_, rfl⟩
  rw [← e7, ← hRQ] at hb7
  rw [← e7]
  have HJ5 := hid_of (HJM.out.grow (hx2.trans hx3))
  have HRQ : Hid (RqC (core (lab O V.heap.size .no) V5) k ba bn bc qa qn p sa sn (decF raw).2) := reqOk_c (HRQ0.out.grow hx3) (fun b hb => lab_ge hb)
  have HB7L : Hid (lab O V.heap.size .no b7 = .no) := lab_ge (by rw [e7]; exact hx2.size)
  have hbr5 := (HJ5.out.ls.blk HBR.out.1 HBR.out.2).1
  clear hx2 hx3 e7 hRQ hbrV HRQ0
  obtain ⟨O5, eO5⟩ : ∃ O5, O5 = lab O V.heap.size .no := ⟨_, rfl⟩
  rw [← eO5] at HJ5 HRQ HB7L
  have hser := HJ5.out.ls.serve (by omega) ⟨xa, xn, xc⟩ raw (HDX.out.sub HJ5.out.ls.sub) HRL.out
  dsimp only at hser
  have HB7 := hid_of hb7
  clear eO5 hb7 q0 q1 q2 ql0 ql1 ql2 HDC HKQ HJM
  go_wp2_with fail
  refine hser.mono ?_
  rintro e Y1 ⟨ra, rn, rc, q, s', P1, g1, rfl, hsr, hRB, hK, hL1, hBs, hrc1, hrc2⟩
  dsimp only
  obtain ⟨q', hq'⟩ := hsr.dec HJ5.out.ls.inv.ins HRL.out
  have hrn2 := (encR'_le hRB).2
  have hdr := Nw.decodeReply_any Y1 ra rn rc (by have h9 : (encR' q).length = rn := hBs.1; omega) hrc1 hrc2 (encR' q) (hBs.sub (Sub.core _ _))
  rw [hq'] at hdr
  have HQ' := hid_of hq'
  have HSR := hid_of hsr
  have HRB := hid_of hRB
  have HK1 := hid_of hK
  have HL1 := hid_of hL1
  have hbrY : blk Y1 br = some CR := (hL1.blk HBR.out.1 HBR.out.2).1
  clear hser hq' hsr hRB hK hL1 hBs hrc1 hrc2 hrn2 hbr5
  go_wp2_with fail
  refine hdr.mono ?_
  rintro e V4 ⟨rep, rfl, hx4, hRC⟩
  dsimp only
  have HRC4 := hid_of (hRC rfl)
  have HX4 := hid_of hx4
  clear hdr hRC hx4 hbrY
  go_upto_region 10 with fail
  refine wp_world (fun V => V4.Extends V ∧ blk V V4.heap.size = some (Reply.enc rep)) ⟨extends_alloc (ext_Ext (Ext.refl _)) _, by rw [blk_alloc, if_pos rfl]; try exact congrArg some (Reply.all_set _ _)⟩ ?_
  rintro V6 ⟨hx6, hb9⟩
  obtain ⟨b9, e9⟩ : ∃ b9, b9 = V4.heap.size := ⟨_, rfl⟩
  rw [← e9] at hb9 ⊢
  obtain ⟨RE, eRE⟩ : ∃ RE, RE = Reply.enc rep := ⟨_, rfl⟩
  have r0 : nth RE 0 = some (.int .i64 rep.code) := by rw [eRE]; rfl
  have r1 : nth RE 1 = some (.int .i64 rep.kind) := by rw [eRE]; rfl
  have r7 : nth RE 7 = some (.slice rep.rows.a rep.rows.len rep.rows.cap) := by rw [eRE]; rfl
  have rl : RE.length = 11 := by rw [eRE]; rfl
  have rl0 : 0 < RE.length := by omega
  have rl1 : 1 < RE.length := by omega
  have rl7 : 7 < RE.length := by omega
  rw [← eRE] at hb9
  have hX46 : Y1.Extends V6 := HX4.out.trans hx6
  obtain ⟨P6, eP6⟩ : ∃ P6, P6 = lab P1 Y1.heap.size .no := ⟨_, rfl⟩
  have hL6 := HL1.out.grow hX46
  have hK6 : Kp O5 V5 (lab P1 Y1.heap.size .no) V6 := HK1.out.trans (Kp.fr (Fr.grow hX46) (fun _ _ e => e))
  rw [← eP6] at hL6 hK6
  have HRC6 : Hid (RepC (core P6 V6) rep q') := HRC4.out.sub (fun b C hb => by
    obtain ⟨h1, h2⟩ := newc_blk hb
    exact blk_core ((hx6.blk (blk_lt h1)).trans h1) (by rw [eP6]; exact lab_ge h2))
  have HB96 : Hid (blk (core P6 V6) b9 = some RE) := blk_core hb9 (by rw [eP6]; exact lab_ge (by rw [e9]; exact HX4.out.size))
  have HB76 : Hid (blk (core P6 V6) b7 = some RQ) := hK6.sub _ _ (blk_core HB7.out HB7L.out)
  have HRQ6 : Hid (RqC (core P6 V6) k ba bn bc qa qn p sa sn (decF raw).2) := zrqC_sub HRQ.out hK6.sub
  have hmod := HJ5.out.model HRL.out HSR.out hK6 hL6 ⟨xa, xn, xc⟩ ((HDX.out.sub hL6.sub).sub (Sub.core _ _))
  dsimp only at hmod
  have hbr6 : blk V6 br = some CR := (hL6.blk HBR.out.1 HBR.out.2).1
  clear hX46 eP6 hL6 hK6 HRC4 e9 eRE hx6 HX4 HK1 HL1 HB7 HB7L HRQ
  go_wp2_with fail
  refine hmod.mono ?_
  rintro e V3 ⟨a3, n3, c3, m', O2, rfl, hJ2, hMv, hn3, hB3, hsub⟩
  dsimp only
  have HJ3 : Hid (JM Ob W1 bs bm (1000 + 10 * ((i + 1 : Nat) : Int)) s' m' O2 g1 V3) := by
    rw [show (1000 : Int) + 10 * ((i + 1 : Nat) : Int) = 1000 + 10 * (i : Int) + 10 from by omega]
    exact hJ2
  have HMV := hid_of hMv
  have HRC3 : Hid (RepC V3 rep q') := (HRC6.out.sub hsub).sub (Sub.core _ _)
  have HB9 : Hid (blk V3 b9 = some RE) := (core_blk (hsub _ _ HB96.out)).1
  have HB7 : Hid (blk V3 b7 = some RQ) := (core_blk (hsub _ _ HB76.out)).1
  have HRQ3 : Hid (RqC V3 k ba bn bc qa qn p sa sn (decF raw).2) := zrqC_sub (zrqC_sub HRQ6.out hsub) (Sub.core _ _)
  obtain ⟨d1, d2, d3, d4⟩ := drF_inv HQ'.out
  obtain ⟨p1, p2, -⟩ := enc_inj HRB.out d2 d1
  have HCK : Hid (rep.code = q.code ∧ rep.kind = q.kind) := ⟨HRC3.out.code.trans p1, HRC3.out.kind.trans p2⟩
  have HJN : Hid (∃ s m O g, JM Ob W1 bs bm (1000 + 10 * ((i + 1 : Nat) : Int)) s m O g V3) := ⟨_, _, _, _, HJ3.out⟩
  obtain ⟨kc, ekc⟩ : ∃ kc, kc = rep.code := ⟨_, rfl⟩
  obtain ⟨kk, ekk⟩ : ∃ kk, kk = rep.kind := ⟨_, rfl⟩
  rw [← ekc] at r0 HCK
  rw [← ekk] at r1 HCK
  have hb9 : blk V3 b9 = some RE := HB9.out
  clear hmod hJ2 hMv hn3 hB3 hsub d1 d2 d3 d4 p1 p2 ekc ekk HRC6 HB96 HB76 HRQ6 hbr6 hnr hil
  by_cases hk6 : kk = 6 ∧ kc = 0
  rotate_left 1
  · by_cases hk : kk = 6
    · have hc : ¬ kc = 0 := fun e => hk6 ⟨hk, e⟩
      have hc1 : (kc == 0) = false := by simp [hc]
      have hc2 : (kc != 0) = true := by simp [hc]
      subst hk
      clear hk6
      go_wp2_with fail
      refine ⟨rfl, rfl, ⟨rfl, rfl, rfl, i + 1, by omega, ?_, HJN⟩, ?_⟩
      · show Value.int .i64 _ = _
        go_num
      · show N - (intOf (Value.int .i64 _)).toNat < N - (intOf (F 6)).toNat
        rw [H6.out]
        simp [intOf]; omega
    · have hk1 : (kk == 6) = false := by simp [hk]
      have hk2 : (kk != 6) = true := by simp [hk]
      clear hk6
      go_wp2_with fail
      refine ⟨rfl, rfl, ⟨rfl, rfl, rfl, i + 1, by omega, ?_, HJN⟩, ?_⟩
      · show Value.int .i64 _ = _
        go_num
      · show N - (intOf (Value.int .i64 _)).toNat < N - (intOf (F 6)).toNat
        rw [H6.out]
        simp [intOf]; omega
  obtain ⟨rfl, rfl⟩ := hk6
  obtain ⟨z0, z1, z2, z3, z4, z5, z6, z7, z8⟩ := pat_ok HJ5.out.ls.inv HJ5.out.ag HRL.out HSR.out HCK.out.2.symm HCK.out.1.symm
  have em : m' = m := mv_pat HMV.out z0 z1
  rw [em] at HJ3
  have hrows : q'.rows = q.rows := by
    have h9 := HQ'.out
    rw [drF_pat HRB.out HCK.out.1.symm HCK.out.2.symm z6] at h9
    rw [← (Prod.mk.inj h9).2]
  obtain ⟨Ce, fa, fc, hMo⟩ := HJ3.out.mo
  have hMI : MsI m := HJ3.out.ag.msi HJ3.out.ls.inv z2
  have hMA := hMo.at
  have hbm3 := hMA.cell
  have HMA := hid_of hMA
  have k6 : 6 < Ce.length := by rw [hMA.len]; omega
  have c6 := hMA.fs
  obtain ⟨fn, efn⟩ : ∃ fn, fn = m.F.length := ⟨_, rfl⟩
  rw [← efn] at c6
  have hfn64 : fn ≤ 64 := by rw [efn, hMI.len]; exact hMI.pg.g.pok.nD
  obtain ⟨pr, epr⟩ : ∃ pr, pr = (decF raw).2.pred.toNat := ⟨_, rfl⟩
  obtain ⟨L, eL⟩ : ∃ L, L = (decF raw).2.slots := ⟨_, rfl⟩
  obtain ⟨R, eR⟩ : ∃ R, R = q.rows := ⟨_, rfl⟩
  have hpp : p = (pr : Int) := by rw [HRQ3.out.2.2.2.2.2.1, epr]; omega
  rw [← epr, ← eL, ← eR] at z8
  rw [← epr] at z4
  rw [← eL] at z5
  rw [← eR, ← eL] at z7
  subst hpp
  have HSL : Hid (Rw encL 2 V3 sa sn L) := by rw [eL]; exact HRQ3.out.2.2.2.2.2.2
  have hLn : L.length = sn := HSL.out.1
  have hRows : RowsC V3 rep.rows R := by
    have h9 := HRC3.out.rows
    rw [hrows, ← eR] at h9
    exact h9
  have hRb : R.length ≤ 512 := by rw [eR]; exact HRB.out.rows.1
  have hprn : pr < fn := by rw [efn, hMI.len]; exact z4
  have HZ8 := hid_of z8
  have HZ7 := hid_of z7
  have HLD := hid_of z2
  have HMI := hid_of hMI
  have HFN := hid_of efn
  have hpf := perfectN_any V3.drew bm 2 m.p fa fn fc m.F (by
    have h9 := (HMA.out.ext (extends_drewN (ext_Ext (Ext.refl V3)) 1)).pfe HLD.out HMI.out
    rw [← HFN.out] at h9
    exact h9)
  have HLN := hid_of hLn
  have HROWS := hid_of hRows
  have HRB5 := hid_of hRb
  have hsn4 : sn ≤ 4 := by rw [← hLn]; exact z5
  clear z0 z1 z2 z3 z4 z5 z6 z7 z8 em hrows hMo hMI hMA efn epr eL eR hLn hRows hRb HMV HRQ3 HRC3 HQ' HSR HRB HJ5 HCK HJN
  go_upto_region 14 with fail
  clear r0 r1 rl0 rl1
  repeat go_step
  refine wp_region_held_drew (S := fun W' => blk W' bm = some Ce) (by kernel_rfl) hbm3 (fun hHeld => ?_)
  refine wpAnyH_take (i := 0) (oi := ⟨_, _, _, _, _, _⟩) (v := ?_) rfl (by kernel_rfl) (by kernel_rfl) (by kernel_rfl) (fun _ _ _ h => h) (Or.inl ⟨by rfl, ?_⟩) (by assumption) ?_
  rotate_left 1
  · intro W' hSw
    go_simp
    try with_reducible rfl
  try simp only [Act.put, List.setIfInBounds_toArray, List.set_cons_zero, List.set_cons_succ]
  refine wpAnyH_take (i := 1) (oi := ⟨_, _, _, _, _, _⟩) (v := ?_) rfl (by kernel_rfl) (by kernel_rfl) (by kernel_rfl) (fun _ _ _ h => h) (Or.inl ⟨by rfl, ?_⟩) (by assumption) ?_
  rotate_left 1
  · intro W' hSw
    go_simp
    try with_reducible rfl
  try simp only [Act.put, List.setIfInBounds_toArray, List.set_cons_zero, List.set_cons_succ]
  refine wpAnyH_take (i := 2) (oi := ⟨_, _, _, _, _, _⟩) (v := ?_) rfl (by kernel_rfl) (by kernel_rfl) (by kernel_rfl) (fun _ _ _ h => h) (Or.inl ⟨by rfl, ?_⟩) (by assumption) ?_
  rotate_left 1
  · intro W' hSw
    go_simp
    try with_reducible rfl
  try simp only [Act.put, List.setIfInBounds_toArray, List.set_cons_zero, List.set_cons_succ]
  refine wpAnyH_take (i := 3) (oi := ⟨_, _, _, _, _, _⟩) (v := ?_) rfl (by kernel_rfl) (by kernel_rfl) (by kernel_rfl) (fun _ _ _ h => h) (Or.inl ⟨by rfl, ?_⟩) (by assumption) ?_
  rotate_left 1
  · intro W' hSw
    go_simp
    try with_reducible rfl
  try simp only [Act.put, List.setIfInBounds_toArray, List.set_cons_zero, List.set_cons_succ]
  refine wpAnyH_take (i := 4) (oi := ⟨_, _, _, _, _, _⟩) (v := ?_) rfl (by kernel_rfl) (by kernel_rfl) (by kernel_rfl) (fun _ _ _ h => h) (Or.inl ⟨by rfl, ?_⟩) (by assumption) ?_
  rotate_left 1
  · intro W' hSw
    go_simp
    try with_reducible rfl
  try simp only [Act.put, List.setIfInBounds_toArray, List.set_cons_zero, List.set_cons_succ]
  refine wpAnyH_take (i := 5) (oi := ⟨_, _, _, _, _, _⟩) (v := ?_) rfl (by kernel_rfl) (by kernel_rfl) (by kernel_rfl) (fun _ _ _ h => h) (Or.inl ⟨by rfl, ?_⟩) (by assumption) ?_
  rotate_left 1
  · intro W' hSw
    go_simp
    try with_reducible rfl
  try simp only [Act.put, List.setIfInBounds_toArray, List.set_cons_zero, List.set_cons_succ]
  refine wpAnyH_take (i := 6) (oi := ⟨_, _, _, _, _, _⟩) (v := ?_) rfl (by kernel_rfl) (by kernel_rfl) (by kernel_rfl) (fun _ _ _ h => h) (Or.inl ⟨by rfl, ?_⟩) (by assumption) ?_
  rotate_left 1
  · intro W' hSw
    go_simp
    try with_reducible rfl
  try simp only [Act.put, List.setIfInBounds_toArray, List.set_cons_zero, List.set_cons_succ]
  refine wpAnyH_ready (rs := [7]) (by kernel_rfl) (by simp) ?_
  refine AllReadyH.cons (o := ⟨_, _, _, _, _, _⟩) rfl (fun K' hK => ?_) AllReadyH.nil
  go_simp
  refine hpf.mono ?_
  rintro e V7 ⟨bo, ta, tn, tc, F1, T1, rfl, hPf, hFl, hx7, hFA, -, -, hLL, hR4⟩
  dsimp only
  have hbm7 : blk V7 bm = some Ce := (hx7.blk (blk_lt hbm3)).trans hbm3
  refine hK.out _ _ hbm7 (fun hHeld => ?_)
  clear hK K'
  try simp only [Act.put, List.setIfInBounds_toArray, List.set_cons_zero, List.set_cons_succ]
  refine wpAnyH_take (i := 8) (oi := ⟨_, _, _, _, _, _⟩) (v := ?_) rfl (by kernel_rfl) (by kernel_rfl) (by kernel_rfl) (fun _ _ _ h => h) (Or.inl ⟨by rfl, ?_⟩) (by assumption) ?_
  rotate_left 1
  · intro W' hSw
    go_simp
    try with_reducible rfl
  try simp only [Act.put, List.setIfInBounds_toArray, List.set_cons_zero, List.set_cons_succ]
  refine wpAnyH_take (i := 9) (oi := ⟨_, _, _, _, _, _⟩) (v := ?_) rfl (by kernel_rfl) (by kernel_rfl) (by kernel_rfl) (fun _ _ _ h => h) (Or.inl ⟨by rfl, ?_⟩) (by assumption) ?_
  rotate_left 1
  · intro W' hSw
    go_simp
    try with_reducible rfl
  try simp only [Act.put, List.setIfInBounds_toArray, List.set_cons_zero, List.set_cons_succ]
  refine wpAnyH_take (i := 10) (oi := ⟨_, _, _, _, _, _⟩) (v := ?_) rfl (by kernel_rfl) (by kernel_rfl) (by kernel_rfl) (fun _ _ _ h => h) (Or.inl ⟨by rfl, ?_⟩) (by assumption) ?_
  rotate_left 1
  · intro W' hSw
    go_simp
    try with_reducible rfl
  try simp only [Act.put, List.setIfInBounds_toArray, List.set_cons_zero, List.set_cons_succ]
  refine wpAnyH_take (i := 11) (oi := ⟨_, _, _, _, _, _⟩) (v := ?_) rfl (by kernel_rfl) (by kernel_rfl) (by kernel_rfl) (fun _ _ _ h => h) (Or.inl ⟨by rfl, ?_⟩) (by assumption) ?_
  rotate_left 1
  · intro W' hSw
    go_simp
    try with_reducible rfl
  try simp only [Act.put, List.setIfInBounds_toArray, List.set_cons_zero, List.set_cons_succ]
  refine wpAnyH_take (i := 12) (oi := ⟨_, _, _, _, _, _⟩) (v := ?_) rfl (by kernel_rfl) (by kernel_rfl) (by kernel_rfl) (fun _ _ _ h => h) (Or.inl ⟨by rfl, ?_⟩) (by assumption) ?_
  rotate_left 1
  · intro W' hSw
    go_simp
    try with_reducible rfl
  try simp only [Act.put, List.setIfInBounds_toArray, List.set_cons_zero, List.set_cons_succ]
  refine wpAnyH_done (by kernel_rfl) ?_ _
  clear hHeld hpf
  rw [← HFN.out]
  have hX7 : V3.Extends V7 := (extends_drewN (ext_Ext (Ext.refl V3)) 1).trans hx7
  have HJ7 : Hid (∀ j, ∃ s m O g, JM Ob W1 bs bm (1000 + 10 * ((i + 1 : Nat) : Int)) s m O g (V7.drewN j)) := fun j => ⟨_, _, _, _, (HJ3.out.grow hX7).drewN j⟩
  have HSL7 : Hid (Rw encL 2 V7 sa sn L) := HSL.out.sub (Sub.ext hX7)
  have HRW7 : Hid (RowsC V7 rep.rows R) := HROWS.out.sub (Sub.ext hX7)
  have hb97 : blk V7 b9 = some RE := (hX7.blk (blk_lt HB9.out)).trans HB9.out
  have hb77 : blk V7 b7 = some RQ := (hX7.blk (blk_lt HB7.out)).trans HB7.out
  obtain ⟨u1, u2, u3⟩ := HZ8.out F1 T1 hPf
  have hprF : pr < F1.length := by rw [hFl, ← HFN.out]; exact hprn
  have hF1q : F1[pr]? = some (F1.getD pr []) := by rw [List.getD_eq_getElem?_getD, List.getElem?_eq_getElem hprF]; rfl
  obtain ⟨bq, Cq, sq, eqq, y1, y2, y3, y4⟩ := hFA.at hF1q
  have ebq : bq = bo := by cases eqq; rfl
  subst ebq
  obtain ⟨ya, yn, yc⟩ := sq
  dsimp only at y3 y4
  obtain ⟨Ls, eLs⟩ : ∃ Ls, Ls = F1.getD pr [] := ⟨_, rfl⟩
  rw [← eLs] at y4 u1 u2
  obtain ⟨K0, w1, w2, w3⟩ := y4
  have HU1 := hid_of u1
  have HU2 := hid_of u2
  have HU3 := hid_of u3
  have HW1 := hid_of w1
  have HW2 := hid_of w2
  have HW3 := hid_of w3
  have hyb : yn ≤ 1000000000000 := by rw [← w2, eLs]; exact hLL _ (List.mem_of_getElem? hF1q)
  have p0 : (0 : Int) ≤ (pr : Int) := by omega
  have pp2 : ((pr : Int)).toNat = pr := by omega
  have hp1 : (pr : Int) < (fn : Int) := by omega
  obtain ⟨rr, err⟩ : ∃ rr : Sl, rr = rep.rows := ⟨_, rfl⟩
  rw [← err] at HRW7 r7
  obtain ⟨rra, rrn, rrc⟩ := rr
  dsimp only at r7
  obtain ⟨Ds, hD1, hD2, hD3⟩ := HRW7.out
  dsimp only at hD1
  have hrrn : R.length = rrn := hD2.symm.trans hD1.1
  have HD1 := hid_of hD1
  have HD2 := hid_of hD2
  have HD3 := hid_of hD3
  have HRRN := hid_of hrrn
  have hrr512 : rrn ≤ 512 := by rw [← hrrn]; exact HRB5.out
  obtain ⟨va, eva⟩ : ∃ va, va = Value.slice (some ⟨bq, 0, none⟩) fn fn := ⟨_, rfl⟩
  have HVA := hid_of eva
  clear hPf hFl hx7 hX7 hFA hLL hR4 eqq eLs hF1q u1 u2 u3 w1 w2 w3 hbm3 hbm7 hb9 hD1 hD2 hD3 hrrn HRW7 err HSL HROWS HJ3 HB9 HB7 HZ8 HFN hprF HMA HLD HMI hprn eva
  go_upto_region 17 with fail
  refine wp_loop_f 176 (p10L2 bs bm b7 b9 (some ⟨br, 0, none⟩) N Cp i (.slice (some ⟨bq, 0, none⟩) fn fn) L Ls yn V7) (fun f _ => yn - (intOf (f 14)).toNat) rfl ⟨⟨rfl, rfl, rfl, rfl, rfl, rfl, rfl⟩, 0, by omega, rfl, rfl, ⟨0, rfl⟩⟩ ?_
  intro G2 V8 hrel
  obtain ⟨⟨f3, f4, f5, f6, f7, f9, f11⟩, kx, hkx, f14, f13, HV8⟩ := hrel
  have H14 := hid_of f14
  obtain ⟨cn, ecn⟩ : ∃ cn, cn = ((Ls.take kx).filter (fitB L)).length := ⟨_, rfl⟩
  rw [← ecn] at f13
  have HCN := hid_of ecn
  have hcnb : cn ≤ kx := by
    have h8 : ((Ls.take kx).filter (fitB L)).length ≤ (Ls.take kx).length := List.length_filter_le _ _
    rw [List.length_take] at h8
    omega
  rw [zframe176, f3, f4, f5, f6, f7, f9, f11, f13, f14]
  clear f3 f4 f5 f6 f7 f9 f11 f13 f14 ecn
  have hb98 : blk V8 b9 = some RE := by obtain ⟨j, hj⟩ := HV8.out; rw [hj, blk_drewN]; exact hb97
  have hb78 : blk V8 b7 = some RQ := by obtain ⟨j, hj⟩ := HV8.out; rw [hj, blk_drewN]; exact hb77
  have y18 : blk V8 bq = some Cq := by obtain ⟨j, hj⟩ := HV8.out; rw [hj, blk_drewN]; exact y1
  by_cases hkn : kx < yn
  rotate_left 1
  · have hkn' : ¬ (kx : Int) < (yn : Int) := by omega
    have hcr : cn = rrn := by
      rw [HCN.out, List.take_of_length_le (by have := HW2.out; omega), ← HU1.out]; exact HRRN.out
    subst hcr
    clear HCN hcnb
    go_upto_region 37 with fail
    refine wp_loop_f 176 (p10L5 bs bm b7 b9 (some ⟨br, 0, none⟩) N Cp i (.slice (some ⟨bq, 0, none⟩) fn fn) cn V7) (fun f _ => cn + 1 - (intOf (f 19)).toNat) rfl ⟨⟨rfl, rfl, rfl, rfl, rfl, rfl, rfl⟩, 0, .inr rfl, rfl, HV8.out⟩ ?_
    clear hb98 hb78 y18 HV8
    intro G5 V9 hrel
    obtain ⟨⟨f3, f4, f5, f6, f7, f9, f11⟩, j, hj, f19, HV9⟩ := hrel
    have H19 := hid_of f19
    rw [zframe176, f3, f4, f5, f6, f7, f9, f11, f19]
    clear f3 f4 f5 f6 f7 f9 f11 f19
    have hb99 : blk V9 b9 = some RE := by obtain ⟨j, hj⟩ := HV9.out; rw [hj, blk_drewN]; exact hb97
    have HJN : Hid (∃ s m O g, JM Ob W1 bs bm (1000 + 10 * ((i + 1 : Nat) : Int)) s m O g V9) := by
      obtain ⟨j, hj⟩ := HV9.out
      rw [hj]; exact HJ7.out j
    by_cases hjn : j + 1 < cn
    rotate_left 1
    · have hjn' : ¬ ((j + 1 : Nat) : Int) < (cn : Int) := by omega
      have hjn2 : ¬ (j : Int) + 1 < (cn : Int) := by omega
      have hjn3 : (cn : Int) ≤ (j : Int) + 1 := by omega
      go_wp2_with fail
      refine ⟨rfl, rfl, ⟨rfl, rfl, rfl, i + 1, by omega, ?_, HJN⟩, ?_⟩
      · show Value.int .i64 _ = _
        go_num
      · show N - (intOf (Value.int .i64 _)).toNat < N - (intOf (F 6)).toNat
        rw [H6.out]
        simp [intOf]; omega
    have hjn' : ((j + 1 : Nat) : Int) < (cn : Int) := by omega
    have hjn2 : (j : Int) + 1 < (cn : Int) := by omega
    have hj1 : (j : Int) < (cn : Int) := by omega
    have hjw : IntKind.i64.wrap (((j + 1 : Nat) : Int) - 1) = (j : Int) := by rw [IntKind.wrap_i64]; omega
    have hjw2 : IntKind.i64.wrap ((j : Int) + 1 - 1) = (j : Int) := by rw [IntKind.wrap_i64]; omega
    have hjw3 : IntKind.i64.wrap (j : Int) = (j : Int) := by rw [IntKind.wrap_i64]; omega
    have j0 : (0 : Int) ≤ (j : Int) := by omega
    have j1 : (0 : Int) ≤ (j : Int) + 1 := by omega
    have jj2 : ((j : Int)).toNat = j := by omega
    have jj3 : ((j : Int) + 1).toNat = j + 1 := by omega
    obtain ⟨x, hx⟩ : ∃ x, R[j]? = some x := ⟨_, List.getElem?_eq_getElem (by have := HRRN.out; omega)⟩
    obtain ⟨y, hy⟩ : ∃ x, R[j + 1]? = some x := ⟨_, List.getElem?_eq_getElem (by have := HRRN.out; omega)⟩
    obtain ⟨d, hd⟩ : ∃ x, Ds[j]? = some x := ⟨_, List.getElem?_eq_getElem (by have := HD1.out.1; omega)⟩
    obtain ⟨d', hd'⟩ : ∃ x, Ds[j + 1]? = some x := ⟨_, List.getElem?_eq_getElem (by have := HD1.out.1; omega)⟩
    obtain ⟨bw, Cw, rfl, t1, t2, t3⟩ := HD1.out.2 j d hd
    obtain ⟨bw', Cw', ebw, t1', t2', t3'⟩ := HD1.out.2 (j + 1) d' hd'
    have ebw2 : bw = bw' := by cases ebw; rfl
    subst ebw2
    rw [t1] at t1'
    cases t1'
    have hdx := HD3.out j d x hd hx
    have hdy := HD3.out (j + 1) d' y hd' hy
    have t4 : nth Cw j = some (.slice d.a d.len d.cap) := by
      have h8 := nth_in (j := 0) t3 (show nth (encD1 d) 0 = some (.slice d.a d.len d.cap) from rfl) (by omega)
      rw [Nat.mul_one, Nat.add_zero] at h8
      exact h8
    have t4' : nth Cw (j + 1) = some (.slice d'.a d'.len d'.cap) := by
      have h8 := nth_in (j := 0) t3' (show nth (encD1 d') 0 = some (.slice d'.a d'.len d'.cap) from rfl) (by omega)
      rw [Nat.mul_one, Nat.add_zero] at h8
      exact h8
    have t5 : j < Cw.length := by omega
    have t5' : j + 1 < Cw.length := by omega
    have hxn := HZ7.out x (List.mem_of_getElem? hx)
    have hyn := HZ7.out y (List.mem_of_getElem? hy)
    have hdl : d'.len = d.len := by have h8 := hdx.1; have h9 := hdy.1; omega
    have hd4 : d.len ≤ 4 := by have h8 := hdx.1; have := HLN.out; omega
    obtain ⟨d'a, d'n, d'c⟩ := d'
    dsimp only at hdl t4' hdy
    subst hdl
    have tX : blk V9 bw = some Cw := by obtain ⟨j, hj⟩ := HV9.out; rw [hj, blk_drewN]; exact t1
    have hle := zless_any V9.drew d.a d'a d.len d.cap d'c (by omega) x y (by obtain ⟨j, hj⟩ := HV9.out; rw [hj]; exact hdx.sub (sub_drewN V7 (j + 1))) (by obtain ⟨j, hj⟩ := HV9.out; rw [hj]; exact hdy.sub (sub_drewN V7 (j + 1)))
    rw [HU3.out j x y hx hy] at hle
    have HVN : Hid (∀ z, ∃ j, V9.drew.drewN z = V7.drewN j) := fun z => by
      obtain ⟨j, hj⟩ := HV9.out
      exact ⟨j + 1 + z, by rw [hj, ← World.drewN_drewN]; rfl⟩
    have hS5 : blk V9 b9 = some RE ∧ blk V9 bw = some Cw := ⟨hb99, tX⟩
    clear hx hy hd hd' t1 t2 t3 t2' t3' ebw hdx hdy hxn hyn HV9 HJN
    go_upto_region 39 with fail
    repeat go_step
    refine wp_region_held_drew (S := fun W' => blk W' b9 = some RE ∧ blk W' bw = some Cw) (by kernel_rfl) hS5 (fun hHeld => ?_)
    refine wpAnyH_take (i := 0) (oi := ⟨_, _, _, _, _, _⟩) (v := ?_) rfl (by kernel_rfl) (by kernel_rfl) (by kernel_rfl) (fun _ _ _ h => h) (Or.inl ⟨by rfl, ?_⟩) (by assumption) ?_
    rotate_left 1
    · intro W' hSw
      obtain ⟨hS1, hS2⟩ := hSw
      go_simp
      try with_reducible rfl
    try simp only [Act.put, List.setIfInBounds_toArray, List.set_cons_zero, List.set_cons_succ]
    refine wpAnyH_take (i := 1) (oi := ⟨_, _, _, _, _, _⟩) (v := ?_) rfl (by kernel_rfl) (by kernel_rfl) (by kernel_rfl) (fun _ _ _ h => h) (Or.inl ⟨by rfl, ?_⟩) (by assumption) ?_
    rotate_left 1
    · intro W' hSw
      obtain ⟨hS1, hS2⟩ := hSw
      go_simp
      try with_reducible rfl
    try simp only [Act.put, List.setIfInBounds_toArray, List.set_cons_zero, List.set_cons_succ]
    refine wpAnyH_take (i := 2) (oi := ⟨_, _, _, _, _, _⟩) (v := ?_) rfl (by kernel_rfl) (by kernel_rfl) (by kernel_rfl) (fun _ _ _ h => h) (Or.inl ⟨by rfl, ?_⟩) (by assumption) ?_
    rotate_left 1
    · intro W' hSw
      obtain ⟨hS1, hS2⟩ := hSw
      go_simp
      try with_reducible rfl
    try simp only [Act.put, List.setIfInBounds_toArray, List.set_cons_zero, List.set_cons_succ]
    refine wpAnyH_take (i := 3) (oi := ⟨_, _, _, _, _, _⟩) (v := ?_) rfl (by kernel_rfl) (by kernel_rfl) (by kernel_rfl) (fun _ _ _ h => h) (Or.inl ⟨by rfl, ?_⟩) (by assumption) ?_
    rotate_left 1
    · intro W' hSw
      obtain ⟨hS1, hS2⟩ := hSw
      go_simp
      try with_reducible rfl
    try simp only [Act.put, List.setIfInBounds_toArray, List.set_cons_zero, List.set_cons_succ]
    refine wpAnyH_take (i := 4) (oi := ⟨_, _, _, _, _, _⟩) (v := ?_) rfl (by kernel_rfl) (by kernel_rfl) (by kernel_rfl) (fun _ _ _ h => h) (Or.inl ⟨by rfl, ?_⟩) (by assumption) ?_
    rotate_left 1
    · intro W' hSw
      obtain ⟨hS1, hS2⟩ := hSw
      go_simp
      try with_reducible rfl
    try simp only [Act.put, List.setIfInBounds_toArray, List.set_cons_zero, List.set_cons_succ]
    refine wpAnyH_take (i := 5) (oi := ⟨_, _, _, _, _, _⟩) (v := ?_) rfl (by kernel_rfl) (by kernel_rfl) (by kernel_rfl) (fun _ _ _ h => h) (Or.inl ⟨by rfl, ?_⟩) (by assumption) ?_
    rotate_left 1
    · intro W' hSw
      obtain ⟨hS1, hS2⟩ := hSw
      go_simp
      try with_reducible rfl
    try simp only [Act.put, List.setIfInBounds_toArray, List.set_cons_zero, List.set_cons_succ]
    refine wpAnyH_take (i := 6) (oi := ⟨_, _, _, _, _, _⟩) (v := ?_) rfl (by kernel_rfl) (by kernel_rfl) (by kernel_rfl) (fun _ _ _ h => h) (Or.inl ⟨by rfl, ?_⟩) (by assumption) ?_
    rotate_left 1
    · intro W' hSw
      obtain ⟨hS1, hS2⟩ := hSw
      go_simp
      try with_reducible rfl
    try simp only [Act.put, List.setIfInBounds_toArray, List.set_cons_zero, List.set_cons_succ]
    refine wpAnyH_take (i := 7) (oi := ⟨_, _, _, _, _, _⟩) (v := ?_) rfl (by kernel_rfl) (by kernel_rfl) (by kernel_rfl) (fun _ _ _ h => h) (Or.inl ⟨by rfl, ?_⟩) (by assumption) ?_
    rotate_left 1
    · intro W' hSw
      obtain ⟨hS1, hS2⟩ := hSw
      go_simp
      try with_reducible rfl
    try simp only [Act.put, List.setIfInBounds_toArray, List.set_cons_zero, List.set_cons_succ]
    refine wpAnyH_take (i := 8) (oi := ⟨_, _, _, _, _, _⟩) (v := ?_) rfl (by kernel_rfl) (by kernel_rfl) (by kernel_rfl) (fun _ _ _ h => h) (Or.inl ⟨by rfl, ?_⟩) (by assumption) ?_
    rotate_left 1
    · intro W' hSw
      obtain ⟨hS1, hS2⟩ := hSw
      go_simp
      try with_reducible rfl
    try simp only [Act.put, List.setIfInBounds_toArray, List.set_cons_zero, List.set_cons_succ]
    refine wpAnyH_take (i := 9) (oi := ⟨_, _, _, _, _, _⟩) (v := ?_) rfl (by kernel_rfl) (by kernel_rfl) (by kernel_rfl) (fun _ _ _ h => h) (Or.inl ⟨by rfl, ?_⟩) (by assumption) ?_
    rotate_left 1
    · intro W' hSw
      obtain ⟨hS1, hS2⟩ := hSw
      go_simp
      try with_reducible rfl
    try simp only [Act.put, List.setIfInBounds_toArray, List.set_cons_zero, List.set_cons_succ]
    refine wpAnyH_take (i := 10) (oi := ⟨_, _, _, _, _, _⟩) (v := ?_) rfl (by kernel_rfl) (by kernel_rfl) (by kernel_rfl) (fun _ _ _ h => h) (Or.inl ⟨by rfl, ?_⟩) (by assumption) ?_
    rotate_left 1
    · intro W' hSw
      obtain ⟨hS1, hS2⟩ := hSw
      go_simp
      try with_reducible rfl
    try simp only [Act.put, List.setIfInBounds_toArray, List.set_cons_zero, List.set_cons_succ]
    refine wpAnyH_ready (rs := [11]) (by kernel_rfl) (by simp) ?_
    refine AllReadyH.cons (o := ⟨_, _, _, _, _, _⟩) rfl (fun K' hK => ?_) AllReadyH.nil
    go_simp
    refine hle.mono ?_
    rintro e Z1 ⟨rfl, kz, ez⟩
    dsimp only
    have hS6 : blk Z1 b9 = some RE ∧ blk Z1 bw = some Cw := by rw [ez]; exact ⟨by rw [blk_drewN]; exact hb99, by rw [blk_drewN]; exact tX⟩
    have HEZ := hid_of ez
    clear ez
    refine hK.out _ _ hS6 (fun hHeld => ?_)
    clear hK K'
    try simp only [Act.put, List.setIfInBounds_toArray, List.set_cons_zero, List.set_cons_succ]
    refine wpAnyH_take (i := 12) (oi := ⟨_, _, _, _, _, _⟩) (v := ?_) rfl (by kernel_rfl) (by kernel_rfl) (by kernel_rfl) (fun _ _ _ h => h) (Or.inl ⟨by rfl, ?_⟩) (by assumption) ?_
    rotate_left 1
    · intro W' hSw
      obtain ⟨hS1, hS2⟩ := hSw
      go_simp
      try with_reducible rfl
    try simp only [Act.put, List.setIfInBounds_toArray, List.set_cons_zero, List.set_cons_succ]
    refine wpAnyH_done (by kernel_rfl) ?_ _
    clear hHeld hle
    go_wp2_with fail
    refine ⟨rfl, rfl, ⟨⟨rfl, rfl, rfl, rfl, rfl, rfl, rfl⟩, j + 1, .inl (by omega), ?_, by rw [HEZ.out]; exact HVN.out kz⟩, ?_⟩
    · show Value.int .i64 _ = _
      go_num
    · show cn + 1 - (intOf (Value.int .i64 _)).toNat < cn + 1 - (intOf (G5 19)).toNat
      rw [H19.out]
      simp [intOf]; omega
  have hkn' : (kx : Int) < (yn : Int) := by omega
  have i0x : (0 : Int) ≤ (kx : Int) := by omega
  have i2x : ((kx : Int)).toNat = kx := by omega
  have hcw : IntKind.i64.wrap ((cn : Int) + 1) = ((cn + 1 : Nat) : Int) := by rw [IntKind.wrap_i64]; omega
  obtain ⟨r, hr⟩ : ∃ x, Ls[kx]? = some x := ⟨_, List.getElem?_eq_getElem (by have := HW2.out; omega)⟩
  obtain ⟨xd, hxd⟩ : ∃ x, K0[kx]? = some x := ⟨_, List.getElem?_eq_getElem (by have := HW1.out.1; omega)⟩
  obtain ⟨bk, Ck, rfl, v1, v2, v3⟩ := HW1.out.2 kx xd hxd
  have hx4 := HW3.out kx xd r hxd hr
  have v4 : nth Ck kx = some (.slice xd.a xd.len xd.cap) := by
    have h8 := nth_in (j := 0) v3 (show nth (encR xd) 0 = some (Sl.val xd) from rfl) (by omega)
    rw [Nat.mul_one, Nat.add_zero] at h8
    exact h8
  have v5 : kx < Ck.length := by omega
  have hrl : r.length = sn := by rw [(HU2.out r (List.mem_of_getElem? hr)).1]; exact HLN.out
  have hxl : xd.len = sn := hx4.1.symm.trans hrl
  obtain ⟨xsa, xsn, xsc⟩ := xd
  dsimp only at v4 hx4 hxl
  subst hxl
  have HX4 := hid_of hx4
  have HRL8 := hid_of hrl
  have HR8 := hid_of hr
  have hbk8 : blk V8 bk = some Ck := by obtain ⟨j, hj⟩ := HV8.out; rw [hj, blk_drewN]; exact v1
  have HBK := hid_of v1
  clear hr hxd hx4 v1 v2 v3 hrl
  go_upto_region 21 with fail
  refine wp_loop_f 176 (p10L3 bs bm b7 b9 (some ⟨br, 0, none⟩) N Cp i (.slice (some ⟨bq, 0, none⟩) fn fn) (.int .i64 (cn : Nat)) (.int .i64 (kx : Nat)) L r xsn V7) (fun f _ => xsn - (intOf (f 16)).toNat) rfl ⟨⟨rfl, rfl, rfl, rfl, rfl, rfl, rfl⟩, rfl, rfl, 0, by omega, rfl, rfl, by obtain ⟨j, hj⟩ := HV8.out; exact ⟨_, hj⟩⟩ ?_
  clear hb98 hb78 y18 hbk8 HV8
  intro G3 V9 hrel
  obtain ⟨⟨f3, f4, f5, f6, f7, f9, f11⟩, f13, f14, c, hc, f16, f15, HV9⟩ := hrel
  have H16 := hid_of f16
  rw [zframe176, f3, f4, f5, f6, f7, f9, f11, f13, f14, f15, f16]
  clear f3 f4 f5 f6 f7 f9 f11 f13 f14 f15 f16
  have hb99 : blk V9 b9 = some RE := by obtain ⟨j, hj⟩ := HV9.out; rw [hj, blk_drewN]; exact hb97
  have hb79 : blk V9 b7 = some RQ := by obtain ⟨j, hj⟩ := HV9.out; rw [hj, blk_drewN]; exact hb77
  have y19 : blk V9 bq = some Cq := by obtain ⟨j, hj⟩ := HV9.out; rw [hj, blk_drewN]; exact y1
  have hbk9 : blk V9 bk = some Ck := by obtain ⟨j, hj⟩ := HV9.out; rw [hj, blk_drewN]; exact HBK.out
  by_cases hcn : c < xsn
  rotate_left 1
  · have hcn' : ¬ (c : Int) < (xsn : Int) := by omega
    obtain ⟨ft, eft⟩ : ∃ ft, ft = fitN L r c := ⟨_, rfl⟩
    rw [← eft]
    have hft : ft = fitB L r := by
      rw [eft, show c = L.length by have := HLN.out; omega]
      rfl
    have HFT := hid_of hft
    clear eft hft
    cases ft with
    | false =>
      have hcc : cn = ((Ls.take (kx + 1)).filter (fitB L)).length := by
        rw [take_at HR8.out, List.filter_append, List.filter_cons_of_neg (by rw [← HFT.out]; decide), List.filter_nil, List.append_nil]
        exact HCN.out
      have HCC := hid_of hcc
      clear hcc
      go_wp2_with fail
      refine ⟨rfl, rfl, ⟨⟨rfl, rfl, rfl, rfl, rfl, rfl, rfl⟩, kx + 1, by omega, ?_, by rw [← HCC.out]; rfl, HV9.out⟩, ?_⟩
      · show Value.int .i64 _ = _
        go_num
      · show yn - (intOf (Value.int .i64 _)).toNat < yn - (intOf (G2 14)).toNat
        rw [H14.out]
        simp [intOf]; omega
    | true =>
      have hcc : cn + 1 = ((Ls.take (kx + 1)).filter (fitB L)).length := by
        rw [take_at HR8.out, List.filter_append, List.filter_cons_of_pos HFT.out.symm, List.filter_nil, List.length_append, ← HCN.out]
        rfl
      have HCC := hid_of hcc
      have HIN : Hid (r ∈ R) := (HU2.out r (List.mem_of_getElem? HR8.out)).2 HFT.out.symm
      clear hcc
      go_upto_region 29 with fail
      try rw [hcw]
      refine wp_loop_f 176 (p10L4 bs bm b7 b9 (some ⟨br, 0, none⟩) N Cp i (.slice (some ⟨bq, 0, none⟩) fn fn) (.int .i64 ((cn + 1 : Nat) : Int)) (.int .i64 (kx : Nat)) R r rrn V7) (fun f _ => rrn - (intOf (f 18)).toNat) rfl ⟨⟨rfl, rfl, rfl, rfl, rfl, rfl, rfl⟩, rfl, rfl, 0, by omega, rfl, by rw [List.take_zero]; rfl, HV9.out⟩ ?_
      clear hb99 hb79 y19 hbk9 HV9
      intro G4 V10 hrel
      obtain ⟨⟨f3, f4, f5, f6, f7, f9, f11⟩, f13, f14, j, hj, f18, f17, HV10⟩ := hrel
      have H18 := hid_of f18
      obtain ⟨fd, efd⟩ : ∃ fd, fd = decide (r ∈ R.take j) := ⟨_, rfl⟩
      rw [← efd] at f17
      have HFD := hid_of efd
      rw [zframe176, f3, f4, f5, f6, f7, f9, f11, f13, f14, f17, f18]
      clear f3 f4 f5 f6 f7 f9 f11 f13 f14 f17 f18 efd
      have hb9X : blk V10 b9 = some RE := by obtain ⟨j, hj⟩ := HV10.out; rw [hj, blk_drewN]; exact hb97
      have hb7X : blk V10 b7 = some RQ := by obtain ⟨j, hj⟩ := HV10.out; rw [hj, blk_drewN]; exact hb77
      have y1X : blk V10 bq = some Cq := by obtain ⟨j, hj⟩ := HV10.out; rw [hj, blk_drewN]; exact y1
      have hbkX : blk V10 bk = some Ck := by obtain ⟨j, hj⟩ := HV10.out; rw [hj, blk_drewN]; exact HBK.out
      by_cases hjn : j < rrn
      rotate_left 1
      · have hjn' : ¬ (j : Int) < (rrn : Int) := by omega
        obtain rfl : fd = true := by
          rw [HFD.out, List.take_of_length_le (by have := HRRN.out; omega)]
          exact decide_eq_true HIN.out
        go_wp2_with fail
        refine ⟨rfl, rfl, ⟨⟨rfl, rfl, rfl, rfl, rfl, rfl, rfl⟩, kx + 1, by omega, ?_, by rw [← HCC.out]; rfl, HV10.out⟩, ?_⟩
        · show Value.int .i64 _ = _
          go_num
        · show yn - (intOf (Value.int .i64 _)).toNat < yn - (intOf (G2 14)).toNat
          rw [H14.out]
          simp [intOf]; omega
      have hjn' : (j : Int) < (rrn : Int) := by omega
      have j0 : (0 : Int) ≤ (j : Int) := by omega
      have jj2 : ((j : Int)).toNat = j := by omega
      obtain ⟨x, hx⟩ : ∃ x, R[j]? = some x := ⟨_, List.getElem?_eq_getElem (by have := HRRN.out; omega)⟩
      obtain ⟨d, hd⟩ : ∃ x, Ds[j]? = some x := ⟨_, List.getElem?_eq_getElem (by have := HD1.out.1; omega)⟩
      obtain ⟨bw, Cw, rfl, t1, t2, t3⟩ := HD1.out.2 j d hd
      have hdx := HD3.out j d x hd hx
      have t4 : nth Cw j = some (.slice d.a d.len d.cap) := by
        have h8 := nth_in (j := 0) t3 (show nth (encD1 d) 0 = some (.slice d.a d.len d.cap) from rfl) (by omega)
        rw [Nat.mul_one, Nat.add_zero] at h8
        exact h8
      have t5 : j < Cw.length := by omega
      have hxn : x.length = xsn := by rw [HZ7.out x (List.mem_of_getElem? hx)]; exact HLN.out
      have hdn : d.len ≤ 4 := by have h9 := hdx.1; omega
      have tX : blk V10 bw = some Cw := by obtain ⟨j, hj⟩ := HV10.out; rw [hj, blk_drewN]; exact t1
      have hsm := same_any V10.drew d.a xsa d.len xsn d.cap xsc (by omega) x r (by obtain ⟨j, hj⟩ := HV10.out; rw [hj]; exact hdx.sub (sub_drewN V7 (j + 1))) (by obtain ⟨j, hj⟩ := HV10.out; rw [hj]; exact HX4.out.sub (sub_drewN V7 (j + 1)))
      have hfd2 : decide (r ∈ R.take (j + 1)) = (fd || decide (x = r)) := by
        rw [take_at hx, HFD.out, Bool.eq_iff_iff, Bool.or_eq_true, decide_eq_true_iff, decide_eq_true_iff, decide_eq_true_iff, List.mem_append, List.mem_singleton]
        exact ⟨fun h => h.imp id Eq.symm, fun h => h.imp id Eq.symm⟩
      have HFD2 := hid_of hfd2
      have HVN : Hid (∀ z, ∃ j, V10.drew.drewN z = V7.drewN j) := fun z => by
        obtain ⟨j, hj⟩ := HV10.out
        exact ⟨j + 1 + z, by rw [hj, ← World.drewN_drewN]; rfl⟩
      obtain ⟨sm, esm⟩ : ∃ sm, sm = decide (x = r) := ⟨_, rfl⟩
      rw [← esm] at hsm
      have HSM := hid_of esm
      have hS5 : blk V10 b7 = some RQ ∧ blk V10 b9 = some RE ∧ blk V10 bq = some Cq ∧ blk V10 bk = some Ck ∧ blk V10 bw = some Cw := ⟨hb7X, hb9X, y1X, hbkX, tX⟩
      clear hx hd t1 t2 t3 hdx hxn hfd2 HV10 esm
      cases fd with
      | true =>
        clear hsm
        go_upto_region 31 with fail
        repeat go_step
        refine wp_region_held_drew (S := fun W' => blk W' b7 = some RQ ∧ blk W' b9 = some RE ∧ blk W' bq = some Cq ∧ blk W' bk = some Ck ∧ blk W' bw = some Cw) (by kernel_rfl) hS5 (fun hHeld => ?_)
        refine wpAnyH_take (i := 0) (oi := ⟨_, _, _, _, _, _⟩) (v := ?_) rfl (by kernel_rfl) (by kernel_rfl) (by kernel_rfl) (fun _ _ _ h => h) (Or.inl ⟨by rfl, ?_⟩) (by assumption) ?_
        rotate_left 1
        · intro W' hSw
          obtain ⟨hS1, hS2, hS3, hS4, hS5⟩ := hSw
          go_simp
          try with_reducible rfl
        try simp only [Act.put, List.setIfInBounds_toArray, List.set_cons_zero, List.set_cons_succ]
        refine wpAnyH_take (i := 1) (oi := ⟨_, _, _, _, _, _⟩) (v := ?_) rfl (by kernel_rfl) (by kernel_rfl) (by kernel_rfl) (fun _ _ _ h => h) (Or.inl ⟨by rfl, ?_⟩) (by assumption) ?_
        rotate_left 1
        · intro W' hSw
          obtain ⟨hS1, hS2, hS3, hS4, hS5⟩ := hSw
          go_simp
          try with_reducible rfl
        try simp only [Act.put, List.setIfInBounds_toArray, List.set_cons_zero, List.set_cons_succ]
        refine wpAnyH_take (i := 2) (oi := ⟨_, _, _, _, _, _⟩) (v := undef) rfl (by kernel_rfl) (by kernel_rfl) (by kernel_rfl) (fun _ _ _ h => h) (Or.inr ⟨by rfl, rfl⟩) (by assumption) ?_
        try simp only [Act.put, List.setIfInBounds_toArray, List.set_cons_zero, List.set_cons_succ]
        refine wpAnyH_take (i := 3) (oi := ⟨_, _, _, _, _, _⟩) (v := undef) rfl (by kernel_rfl) (by kernel_rfl) (by kernel_rfl) (fun _ _ _ h => h) (Or.inr ⟨by rfl, rfl⟩) (by assumption) ?_
        try simp only [Act.put, List.setIfInBounds_toArray, List.set_cons_zero, List.set_cons_succ]
        refine wpAnyH_take (i := 4) (oi := ⟨_, _, _, _, _, _⟩) (v := undef) rfl (by kernel_rfl) (by kernel_rfl) (by kernel_rfl) (fun _ _ _ h => h) (Or.inr ⟨by rfl, rfl⟩) (by assumption) ?_
        try simp only [Act.put, List.setIfInBounds_toArray, List.set_cons_zero, List.set_cons_succ]
        refine wpAnyH_take (i := 5) (oi := ⟨_, _, _, _, _, _⟩) (v := undef) rfl (by kernel_rfl) (by kernel_rfl) (by kernel_rfl) (fun _ _ _ h => h) (Or.inr ⟨by rfl, rfl⟩) (by assumption) ?_
        try simp only [Act.put, List.setIfInBounds_toArray, List.set_cons_zero, List.set_cons_succ]
        refine wpAnyH_take (i := 6) (oi := ⟨_, _, _, _, _, _⟩) (v := undef) rfl (by kernel_rfl) (by kernel_rfl) (by kernel_rfl) (fun _ _ _ h => h) (Or.inr ⟨by rfl, rfl⟩) (by assumption) ?_
        try simp only [Act.put, List.setIfInBounds_toArray, List.set_cons_zero, List.set_cons_succ]
        refine wpAnyH_take (i := 7) (oi := ⟨_, _, _, _, _, _⟩) (v := undef) rfl (by kernel_rfl) (by kernel_rfl) (by kernel_rfl) (fun _ _ _ h => h) (Or.inr ⟨by rfl, rfl⟩) (by assumption) ?_
        try simp only [Act.put, List.setIfInBounds_toArray, List.set_cons_zero, List.set_cons_succ]
        refine wpAnyH_take (i := 8) (oi := ⟨_, _, _, _, _, _⟩) (v := undef) rfl (by kernel_rfl) (by kernel_rfl) (by kernel_rfl) (fun _ _ _ h => h) (Or.inr ⟨by rfl, rfl⟩) (by assumption) ?_
        try simp only [Act.put, List.setIfInBounds_toArray, List.set_cons_zero, List.set_cons_succ]
        refine wpAnyH_take (i := 9) (oi := ⟨_, _, _, _, _, _⟩) (v := undef) rfl (by kernel_rfl) (by kernel_rfl) (by kernel_rfl) (fun _ _ _ h => h) (Or.inr ⟨by rfl, rfl⟩) (by assumption) ?_
        try simp only [Act.put, List.setIfInBounds_toArray, List.set_cons_zero, List.set_cons_succ]
        refine wpAnyH_take (i := 10) (oi := ⟨_, _, _, _, _, _⟩) (v := undef) rfl (by kernel_rfl) (by kernel_rfl) (by kernel_rfl) (fun _ _ _ h => h) (Or.inr ⟨by rfl, rfl⟩) (by assumption) ?_
        try simp only [Act.put, List.setIfInBounds_toArray, List.set_cons_zero, List.set_cons_succ]
        refine wpAnyH_take (i := 11) (oi := ⟨_, _, _, _, _, _⟩) (v := undef) rfl (by kernel_rfl) (by kernel_rfl) (by kernel_rfl) (fun _ _ _ h => h) (Or.inr ⟨by rfl, rfl⟩) (by assumption) ?_
        try simp only [Act.put, List.setIfInBounds_toArray, List.set_cons_zero, List.set_cons_succ]
        refine wpAnyH_take (i := 12) (oi := ⟨_, _, _, _, _, _⟩) (v := undef) rfl (by kernel_rfl) (by kernel_rfl) (by kernel_rfl) (fun _ _ _ h => h) (Or.inr ⟨by rfl, rfl⟩) (by assumption) ?_
        try simp only [Act.put, List.setIfInBounds_toArray, List.set_cons_zero, List.set_cons_succ]
        refine wpAnyH_take (i := 13) (oi := ⟨_, _, _, _, _, _⟩) (v := undef) rfl (by kernel_rfl) (by kernel_rfl) (by kernel_rfl) (fun _ _ _ h => h) (Or.inr ⟨by rfl, rfl⟩) (by assumption) ?_
        try simp only [Act.put, List.setIfInBounds_toArray, List.set_cons_zero, List.set_cons_succ]
        refine wpAnyH_take (i := 14) (oi := ⟨_, _, _, _, _, _⟩) (v := undef) rfl (by kernel_rfl) (by kernel_rfl) (by kernel_rfl) (fun _ _ _ h => h) (Or.inr ⟨by rfl, rfl⟩) (by assumption) ?_
        try simp only [Act.put, List.setIfInBounds_toArray, List.set_cons_zero, List.set_cons_succ]
        refine wpAnyH_take (i := 15) (oi := ⟨_, _, _, _, _, _⟩) (v := undef) rfl (by kernel_rfl) (by kernel_rfl) (by kernel_rfl) (fun _ _ _ h => h) (Or.inr ⟨by rfl, rfl⟩) (by assumption) ?_
        try simp only [Act.put, List.setIfInBounds_toArray, List.set_cons_zero, List.set_cons_succ]
        refine wpAnyH_take (i := 16) (oi := ⟨_, _, _, _, _, _⟩) (v := ?_) rfl (by kernel_rfl) (by kernel_rfl) (by kernel_rfl) (fun _ _ _ h => h) (Or.inl ⟨by rfl, ?_⟩) (by assumption) ?_
        rotate_left 1
        · intro W' hSw
          obtain ⟨hS1, hS2, hS3, hS4, hS5⟩ := hSw
          go_simp
          try with_reducible rfl
        try simp only [Act.put, List.setIfInBounds_toArray, List.set_cons_zero, List.set_cons_succ]
        refine wpAnyH_take (i := 17) (oi := ⟨_, _, _, _, _, _⟩) (v := ?_) rfl (by kernel_rfl) (by kernel_rfl) (by kernel_rfl) (fun _ _ _ h => h) (Or.inl ⟨by rfl, ?_⟩) (by assumption) ?_
        rotate_left 1
        · intro W' hSw
          obtain ⟨hS1, hS2, hS3, hS4, hS5⟩ := hSw
          go_simp
          try with_reducible rfl
        try simp only [Act.put, List.setIfInBounds_toArray, List.set_cons_zero, List.set_cons_succ]
        refine wpAnyH_done (by kernel_rfl) ?_ _
        clear hHeld
        go_wp2_with fail
        refine ⟨rfl, rfl, ⟨⟨rfl, rfl, rfl, rfl, rfl, rfl, rfl⟩, rfl, rfl, j + 1, by omega, ?_, by rw [HFD2.out]; rfl, HVN.out 0⟩, ?_⟩
        · show Value.int .i64 _ = _
          go_num
        · show rrn - (intOf (Value.int .i64 _)).toNat < rrn - (intOf (G4 18)).toNat
          rw [H18.out]
          simp [intOf]; omega
      | false =>
        go_upto_region 31 with fail
        repeat go_step
        refine wp_region_held_drew (S := fun W' => blk W' b7 = some RQ ∧ blk W' b9 = some RE ∧ blk W' bq = some Cq ∧ blk W' bk = some Ck ∧ blk W' bw = some Cw) (by kernel_rfl) hS5 (fun hHeld => ?_)
        refine wpAnyH_take (i := 0) (oi := ⟨_, _, _, _, _, _⟩) (v := ?_) rfl (by kernel_rfl) (by kernel_rfl) (by kernel_rfl) (fun _ _ _ h => h) (Or.inl ⟨by rfl, ?_⟩) (by assumption) ?_
        rotate_left 1
        · intro W' hSw
          obtain ⟨hS1, hS2, hS3, hS4, hS5⟩ := hSw
          go_simp
          try with_reducible rfl
        try simp only [Act.put, List.setIfInBounds_toArray, List.set_cons_zero, List.set_cons_succ]
        refine wpAnyH_take (i := 1) (oi := ⟨_, _, _, _, _, _⟩) (v := ?_) rfl (by kernel_rfl) (by kernel_rfl) (by kernel_rfl) (fun _ _ _ h => h) (Or.inl ⟨by rfl, ?_⟩) (by assumption) ?_
        rotate_left 1
        · intro W' hSw
          obtain ⟨hS1, hS2, hS3, hS4, hS5⟩ := hSw
          go_simp
          try with_reducible rfl
        try simp only [Act.put, List.setIfInBounds_toArray, List.set_cons_zero, List.set_cons_succ]
        refine wpAnyH_take (i := 2) (oi := ⟨_, _, _, _, _, _⟩) (v := ?_) rfl (by kernel_rfl) (by kernel_rfl) (by kernel_rfl) (fun _ _ _ h => h) (Or.inl ⟨by rfl, ?_⟩) (by assumption) ?_
        rotate_left 1
        · intro W' hSw
          obtain ⟨hS1, hS2, hS3, hS4, hS5⟩ := hSw
          go_simp
          try with_reducible rfl
        try simp only [Act.put, List.setIfInBounds_toArray, List.set_cons_zero, List.set_cons_succ]
        refine wpAnyH_take (i := 3) (oi := ⟨_, _, _, _, _, _⟩) (v := ?_) rfl (by kernel_rfl) (by kernel_rfl) (by kernel_rfl) (fun _ _ _ h => h) (Or.inl ⟨by rfl, ?_⟩) (by assumption) ?_
        rotate_left 1
        · intro W' hSw
          obtain ⟨hS1, hS2, hS3, hS4, hS5⟩ := hSw
          go_simp
          try with_reducible rfl
        try simp only [Act.put, List.setIfInBounds_toArray, List.set_cons_zero, List.set_cons_succ]
        refine wpAnyH_take (i := 4) (oi := ⟨_, _, _, _, _, _⟩) (v := ?_) rfl (by kernel_rfl) (by kernel_rfl) (by kernel_rfl) (fun _ _ _ h => h) (Or.inl ⟨by rfl, ?_⟩) (by assumption) ?_
        rotate_left 1
        · intro W' hSw
          obtain ⟨hS1, hS2, hS3, hS4, hS5⟩ := hSw
          go_simp
          try with_reducible rfl
        try simp only [Act.put, List.setIfInBounds_toArray, List.set_cons_zero, List.set_cons_succ]
        refine wpAnyH_take (i := 5) (oi := ⟨_, _, _, _, _, _⟩) (v := ?_) rfl (by kernel_rfl) (by kernel_rfl) (by kernel_rfl) (fun _ _ _ h => h) (Or.inl ⟨by rfl, ?_⟩) (by assumption) ?_
        rotate_left 1
        · intro W' hSw
          obtain ⟨hS1, hS2, hS3, hS4, hS5⟩ := hSw
          go_simp
          try with_reducible rfl
        try simp only [Act.put, List.setIfInBounds_toArray, List.set_cons_zero, List.set_cons_succ]
        refine wpAnyH_take (i := 6) (oi := ⟨_, _, _, _, _, _⟩) (v := ?_) rfl (by kernel_rfl) (by kernel_rfl) (by kernel_rfl) (fun _ _ _ h => h) (Or.inl ⟨by rfl, ?_⟩) (by assumption) ?_
        rotate_left 1
        · intro W' hSw
          obtain ⟨hS1, hS2, hS3, hS4, hS5⟩ := hSw
          go_simp
          try with_reducible rfl
        try simp only [Act.put, List.setIfInBounds_toArray, List.set_cons_zero, List.set_cons_succ]
        refine wpAnyH_take (i := 7) (oi := ⟨_, _, _, _, _, _⟩) (v := ?_) rfl (by kernel_rfl) (by kernel_rfl) (by kernel_rfl) (fun _ _ _ h => h) (Or.inl ⟨by rfl, ?_⟩) (by assumption) ?_
        rotate_left 1
        · intro W' hSw
          obtain ⟨hS1, hS2, hS3, hS4, hS5⟩ := hSw
          go_simp
          try with_reducible rfl
        try simp only [Act.put, List.setIfInBounds_toArray, List.set_cons_zero, List.set_cons_succ]
        refine wpAnyH_take (i := 8) (oi := ⟨_, _, _, _, _, _⟩) (v := ?_) rfl (by kernel_rfl) (by kernel_rfl) (by kernel_rfl) (fun _ _ _ h => h) (Or.inl ⟨by rfl, ?_⟩) (by assumption) ?_
        rotate_left 1
        · intro W' hSw
          obtain ⟨hS1, hS2, hS3, hS4, hS5⟩ := hSw
          go_simp
          try with_reducible rfl
        try simp only [Act.put, List.setIfInBounds_toArray, List.set_cons_zero, List.set_cons_succ]
        refine wpAnyH_take (i := 9) (oi := ⟨_, _, _, _, _, _⟩) (v := ?_) rfl (by kernel_rfl) (by kernel_rfl) (by kernel_rfl) (fun _ _ _ h => h) (Or.inl ⟨by rfl, ?_⟩) (by assumption) ?_
        rotate_left 1
        · intro W' hSw
          obtain ⟨hS1, hS2, hS3, hS4, hS5⟩ := hSw
          go_simp
          try with_reducible rfl
        try simp only [Act.put, List.setIfInBounds_toArray, List.set_cons_zero, List.set_cons_succ]
        refine wpAnyH_take (i := 10) (oi := ⟨_, _, _, _, _, _⟩) (v := ?_) rfl (by kernel_rfl) (by kernel_rfl) (by kernel_rfl) (fun _ _ _ h => h) (Or.inl ⟨by rfl, ?_⟩) (by assumption) ?_
        rotate_left 1
        · intro W' hSw
          obtain ⟨hS1, hS2, hS3, hS4, hS5⟩ := hSw
          go_simp
          try with_reducible rfl
        try simp only [Act.put, List.setIfInBounds_toArray, List.set_cons_zero, List.set_cons_succ]
        refine wpAnyH_take (i := 11) (oi := ⟨_, _, _, _, _, _⟩) (v := ?_) rfl (by kernel_rfl) (by kernel_rfl) (by kernel_rfl) (fun _ _ _ h => h) (Or.inl ⟨by rfl, ?_⟩) (by assumption) ?_
        rotate_left 1
        · intro W' hSw
          obtain ⟨hS1, hS2, hS3, hS4, hS5⟩ := hSw
          go_simp
          try with_reducible rfl
        try simp only [Act.put, List.setIfInBounds_toArray, List.set_cons_zero, List.set_cons_succ]
        refine wpAnyH_take (i := 12) (oi := ⟨_, _, _, _, _, _⟩) (v := ?_) rfl (by kernel_rfl) (by kernel_rfl) (by kernel_rfl) (fun _ _ _ h => h) (Or.inl ⟨by rfl, ?_⟩) (by assumption) ?_
        rotate_left 1
        · intro W' hSw
          obtain ⟨hS1, hS2, hS3, hS4, hS5⟩ := hSw
          go_simp
          try with_reducible rfl
        try simp only [Act.put, List.setIfInBounds_toArray, List.set_cons_zero, List.set_cons_succ]
        refine wpAnyH_take (i := 13) (oi := ⟨_, _, _, _, _, _⟩) (v := ?_) rfl (by kernel_rfl) (by kernel_rfl) (by kernel_rfl) (fun _ _ _ h => h) (Or.inl ⟨by rfl, ?_⟩) (by assumption) ?_
        rotate_left 1
        · intro W' hSw
          obtain ⟨hS1, hS2, hS3, hS4, hS5⟩ := hSw
          go_simp
          try with_reducible rfl
        try simp only [Act.put, List.setIfInBounds_toArray, List.set_cons_zero, List.set_cons_succ]
        refine wpAnyH_take (i := 14) (oi := ⟨_, _, _, _, _, _⟩) (v := ?_) rfl (by kernel_rfl) (by kernel_rfl) (by kernel_rfl) (fun _ _ _ h => h) (Or.inl ⟨by rfl, ?_⟩) (by assumption) ?_
        rotate_left 1
        · intro W' hSw
          obtain ⟨hS1, hS2, hS3, hS4, hS5⟩ := hSw
          go_simp
          try with_reducible rfl
        try simp only [Act.put, List.setIfInBounds_toArray, List.set_cons_zero, List.set_cons_succ]
        refine wpAnyH_ready (rs := [15]) (by kernel_rfl) (by simp) ?_
        refine AllReadyH.cons (o := ⟨_, _, _, _, _, _⟩) rfl (fun K' hK => ?_) AllReadyH.nil
        go_simp
        refine hsm.mono ?_
        rintro e Z1 ⟨rfl, kz, ez⟩
        dsimp only
        have hS6 : blk Z1 b7 = some RQ ∧ blk Z1 b9 = some RE ∧ blk Z1 bq = some Cq ∧ blk Z1 bk = some Ck ∧ blk Z1 bw = some Cw := by rw [ez]; exact ⟨by rw [blk_drewN]; exact hb7X, by rw [blk_drewN]; exact hb9X, by rw [blk_drewN]; exact y1X, by rw [blk_drewN]; exact hbkX, by rw [blk_drewN]; exact tX⟩
        have HEZ := hid_of ez
        clear ez
        refine hK.out _ _ hS6 (fun hHeld => ?_)
        clear hK K'
        try simp only [Act.put, List.setIfInBounds_toArray, List.set_cons_zero, List.set_cons_succ]
        refine wpAnyH_take (i := 16) (oi := ⟨_, _, _, _, _, _⟩) (v := ?_) rfl (by kernel_rfl) (by kernel_rfl) (by kernel_rfl) (fun _ _ _ h => h) (Or.inl ⟨by rfl, ?_⟩) (by assumption) ?_
        rotate_left 1
        · intro W' hSw
          obtain ⟨hS1, hS2, hS3, hS4, hS5⟩ := hSw
          go_simp
          try with_reducible rfl
        try simp only [Act.put, List.setIfInBounds_toArray, List.set_cons_zero, List.set_cons_succ]
        refine wpAnyH_take (i := 17) (oi := ⟨_, _, _, _, _, _⟩) (v := ?_) rfl (by kernel_rfl) (by kernel_rfl) (by kernel_rfl) (fun _ _ _ h => h) (Or.inl ⟨by rfl, ?_⟩) (by assumption) ?_
        rotate_left 1
        · intro W' hSw
          obtain ⟨hS1, hS2, hS3, hS4, hS5⟩ := hSw
          go_simp
          try with_reducible rfl
        try simp only [Act.put, List.setIfInBounds_toArray, List.set_cons_zero, List.set_cons_succ]
        refine wpAnyH_done (by kernel_rfl) ?_ _
        clear hHeld hsm
        go_wp2_with fail
        refine ⟨rfl, rfl, ⟨⟨rfl, rfl, rfl, rfl, rfl, rfl, rfl⟩, rfl, rfl, j + 1, by omega, ?_, by rw [HFD2.out, Bool.false_or, ← HSM.out]; rfl, by rw [HEZ.out]; exact HVN.out kz⟩, ?_⟩
        · show Value.int .i64 _ = _
          go_num
        · show rrn - (intOf (Value.int .i64 _)).toNat < rrn - (intOf (G4 18)).toNat
          rw [H18.out]
          simp [intOf]; omega
  have hcn' : (c : Int) < (xsn : Int) := by omega
  have j0 : (0 : Int) ≤ (c : Int) := by omega
  have jj2 : ((c : Int)).toNat = c := by omega
  obtain ⟨sl, hsl⟩ : ∃ x, L[c]? = some x := ⟨_, List.getElem?_eq_getElem (by have := HLN.out; omega)⟩
  obtain ⟨bl, Cl, rfl, t1, t2, t3⟩ := HSL7.out.2 c sl hsl
  obtain ⟨y, hy⟩ : ∃ y, r[c]? = some y := ⟨_, List.getElem?_eq_getElem (by rw [HRL8.out]; exact hcn)⟩
  obtain ⟨bx, Cx, rfl, s1, s2, s3⟩ := str_at HX4.out hy
  have m10 : nth Cl (c * 2) = some (.bool sl.1) := nth_in (j := 0) t3 rfl (by omega)
  have m11 : nth Cl (c * 2 + 1) = some (.string ⟨sl.2.toArray⟩) := nth_in (j := 1) t3 rfl (by omega)
  have l10 : (c + 1) * 2 ≤ xsn * 2 := Nat.mul_le_mul_right _ hcn
  have l11 : c * 2 < Cl.length := by omega
  have l12 : c * 2 + 1 < Cl.length := by omega
  have t19 : blk V9 bl = some Cl := by obtain ⟨j, hj⟩ := HV9.out; rw [hj, blk_drewN]; exact t1
  have s19 : blk V9 bx = some Cx := by obtain ⟨j, hj⟩ := HV9.out; rw [hj, blk_drewN]; exact s1
  have hfs : fitN L r (c + 1) = (fitN L r c && (!sl.1 || decide (sl.2 = y))) := by
    rw [fitN_succ, List.getD_eq_getElem?_getD, hsl, List.getD_eq_getElem?_getD, hy]; rfl
  obtain ⟨fk, efk⟩ : ∃ fk, fk = fitN L r c := ⟨_, rfl⟩
  rw [← efk] at hfs ⊢
  obtain ⟨sb, snm⟩ := sl
  dsimp only at m10 m11 hfs
  have HFS := hid_of hfs
  have HVN : Hid (∃ j, V9.drew = V7.drewN j) := by
    obtain ⟨j, hj⟩ := HV9.out
    exact ⟨j + 1, by rw [hj]; rfl⟩
  clear hsl t1 t2 t3 hy s1 hfs efk l10 HV9
  have hS5 : blk V9 b7 = some RQ ∧ blk V9 bl = some Cl ∧ blk V9 bq = some Cq ∧ blk V9 bk = some Ck ∧ blk V9 bx = some Cx := ⟨hb79, t19, y19, hbk9, s19⟩
  cases sb with
  | false =>
    have hf1 : fk = fitN L r (c + 1) := by rw [HFS.out]; simp
    have HF1 := hid_of hf1
    clear hf1
    go_upto_region 23 with fail
    repeat go_step
    refine wp_region_held_drew (S := fun W' => blk W' b7 = some RQ ∧ blk W' bl = some Cl ∧ blk W' bq = some Cq ∧ blk W' bk = some Ck ∧ blk W' bx = some Cx) (by kernel_rfl) hS5 (fun hHeld => ?_)
    refine wpAnyH_take (i := 0) (oi := ⟨_, _, _, _, _, _⟩) (v := ?_) rfl (by kernel_rfl) (by kernel_rfl) (by kernel_rfl) (fun _ _ _ h => h) (Or.inl ⟨by rfl, ?_⟩) (by assumption) ?_
    rotate_left 1
    · intro W' hSw
      obtain ⟨hS1, hS2, hS3, hS4, hS5⟩ := hSw
      go_simp
      try with_reducible rfl
    try simp only [Act.put, List.setIfInBounds_toArray, List.set_cons_zero, List.set_cons_succ]
    refine wpAnyH_take (i := 1) (oi := ⟨_, _, _, _, _, _⟩) (v := ?_) rfl (by kernel_rfl) (by kernel_rfl) (by kernel_rfl) (fun _ _ _ h => h) (Or.inl ⟨by rfl, ?_⟩) (by assumption) ?_
    rotate_left 1
    · intro W' hSw
      obtain ⟨hS1, hS2, hS3, hS4, hS5⟩ := hSw
      go_simp
      try with_reducible rfl
    try simp only [Act.put, List.setIfInBounds_toArray, List.set_cons_zero, List.set_cons_succ]
    refine wpAnyH_take (i := 2) (oi := ⟨_, _, _, _, _, _⟩) (v := ?_) rfl (by kernel_rfl) (by kernel_rfl) (by kernel_rfl) (fun _ _ _ h => h) (Or.inl ⟨by rfl, ?_⟩) (by assumption) ?_
    rotate_left 1
    · intro W' hSw
      obtain ⟨hS1, hS2, hS3, hS4, hS5⟩ := hSw
      go_simp
      try with_reducible rfl
    try simp only [Act.put, List.setIfInBounds_toArray, List.set_cons_zero, List.set_cons_succ]
    refine wpAnyH_take (i := 3) (oi := ⟨_, _, _, _, _, _⟩) (v := ?_) rfl (by kernel_rfl) (by kernel_rfl) (by kernel_rfl) (fun _ _ _ h => h) (Or.inl ⟨by rfl, ?_⟩) (by assumption) ?_
    rotate_left 1
    · intro W' hSw
      obtain ⟨hS1, hS2, hS3, hS4, hS5⟩ := hSw
      go_simp
      try with_reducible rfl
    try simp only [Act.put, List.setIfInBounds_toArray, List.set_cons_zero, List.set_cons_succ]
    refine wpAnyH_take (i := 4) (oi := ⟨_, _, _, _, _, _⟩) (v := ?_) rfl (by kernel_rfl) (by kernel_rfl) (by kernel_rfl) (fun _ _ _ h => h) (Or.inl ⟨by rfl, ?_⟩) (by assumption) ?_
    rotate_left 1
    · intro W' hSw
      obtain ⟨hS1, hS2, hS3, hS4, hS5⟩ := hSw
      go_simp
      try with_reducible rfl
    try simp only [Act.put, List.setIfInBounds_toArray, List.set_cons_zero, List.set_cons_succ]
    refine wpAnyH_take (i := 5) (oi := ⟨_, _, _, _, _, _⟩) (v := ?_) rfl (by kernel_rfl) (by kernel_rfl) (by kernel_rfl) (fun _ _ _ h => h) (Or.inl ⟨by rfl, ?_⟩) (by assumption) ?_
    rotate_left 1
    · intro W' hSw
      obtain ⟨hS1, hS2, hS3, hS4, hS5⟩ := hSw
      go_simp
      try with_reducible rfl
    try simp only [Act.put, List.setIfInBounds_toArray, List.set_cons_zero, List.set_cons_succ]
    refine wpAnyH_take (i := 6) (oi := ⟨_, _, _, _, _, _⟩) (v := ?_) rfl (by kernel_rfl) (by kernel_rfl) (by kernel_rfl) (fun _ _ _ h => h) (Or.inl ⟨by rfl, ?_⟩) (by assumption) ?_
    rotate_left 1
    · intro W' hSw
      obtain ⟨hS1, hS2, hS3, hS4, hS5⟩ := hSw
      go_simp
      try with_reducible rfl
    try simp only [Act.put, List.setIfInBounds_toArray, List.set_cons_zero, List.set_cons_succ]
    refine wpAnyH_take (i := 7) (oi := ⟨_, _, _, _, _, _⟩) (v := undef) rfl (by kernel_rfl) (by kernel_rfl) (by kernel_rfl) (fun _ _ _ h => h) (Or.inr ⟨by rfl, rfl⟩) (by assumption) ?_
    try simp only [Act.put, List.setIfInBounds_toArray, List.set_cons_zero, List.set_cons_succ]
    refine wpAnyH_take (i := 8) (oi := ⟨_, _, _, _, _, _⟩) (v := undef) rfl (by kernel_rfl) (by kernel_rfl) (by kernel_rfl) (fun _ _ _ h => h) (Or.inr ⟨by rfl, rfl⟩) (by assumption) ?_
    try simp only [Act.put, List.setIfInBounds_toArray, List.set_cons_zero, List.set_cons_succ]
    refine wpAnyH_take (i := 9) (oi := ⟨_, _, _, _, _, _⟩) (v := undef) rfl (by kernel_rfl) (by kernel_rfl) (by kernel_rfl) (fun _ _ _ h => h) (Or.inr ⟨by rfl, rfl⟩) (by assumption) ?_
    try simp only [Act.put, List.setIfInBounds_toArray, List.set_cons_zero, List.set_cons_succ]
    refine wpAnyH_take (i := 10) (oi := ⟨_, _, _, _, _, _⟩) (v := undef) rfl (by kernel_rfl) (by kernel_rfl) (by kernel_rfl) (fun _ _ _ h => h) (Or.inr ⟨by rfl, rfl⟩) (by assumption) ?_
    try simp only [Act.put, List.setIfInBounds_toArray, List.set_cons_zero, List.set_cons_succ]
    refine wpAnyH_take (i := 11) (oi := ⟨_, _, _, _, _, _⟩) (v := undef) rfl (by kernel_rfl) (by kernel_rfl) (by kernel_rfl) (fun _ _ _ h => h) (Or.inr ⟨by rfl, rfl⟩) (by assumption) ?_
    try simp only [Act.put, List.setIfInBounds_toArray, List.set_cons_zero, List.set_cons_succ]
    refine wpAnyH_take (i := 12) (oi := ⟨_, _, _, _, _, _⟩) (v := undef) rfl (by kernel_rfl) (by kernel_rfl) (by kernel_rfl) (fun _ _ _ h => h) (Or.inr ⟨by rfl, rfl⟩) (by assumption) ?_
    try simp only [Act.put, List.setIfInBounds_toArray, List.set_cons_zero, List.set_cons_succ]
    refine wpAnyH_take (i := 13) (oi := ⟨_, _, _, _, _, _⟩) (v := undef) rfl (by kernel_rfl) (by kernel_rfl) (by kernel_rfl) (fun _ _ _ h => h) (Or.inr ⟨by rfl, rfl⟩) (by assumption) ?_
    try simp only [Act.put, List.setIfInBounds_toArray, List.set_cons_zero, List.set_cons_succ]
    refine wpAnyH_take (i := 14) (oi := ⟨_, _, _, _, _, _⟩) (v := undef) rfl (by kernel_rfl) (by kernel_rfl) (by kernel_rfl) (fun _ _ _ h => h) (Or.inr ⟨by rfl, rfl⟩) (by assumption) ?_
    try simp only [Act.put, List.setIfInBounds_toArray, List.set_cons_zero, List.set_cons_succ]
    refine wpAnyH_take (i := 15) (oi := ⟨_, _, _, _, _, _⟩) (v := undef) rfl (by kernel_rfl) (by kernel_rfl) (by kernel_rfl) (fun _ _ _ h => h) (Or.inr ⟨by rfl, rfl⟩) (by assumption) ?_
    try simp only [Act.put, List.setIfInBounds_toArray, List.set_cons_zero, List.set_cons_succ]
    refine wpAnyH_take (i := 16) (oi := ⟨_, _, _, _, _, _⟩) (v := undef) rfl (by kernel_rfl) (by kernel_rfl) (by kernel_rfl) (fun _ _ _ h => h) (Or.inr ⟨by rfl, rfl⟩) (by assumption) ?_
    try simp only [Act.put, List.setIfInBounds_toArray, List.set_cons_zero, List.set_cons_succ]
    refine wpAnyH_take (i := 17) (oi := ⟨_, _, _, _, _, _⟩) (v := undef) rfl (by kernel_rfl) (by kernel_rfl) (by kernel_rfl) (fun _ _ _ h => h) (Or.inr ⟨by rfl, rfl⟩) (by assumption) ?_
    try simp only [Act.put, List.setIfInBounds_toArray, List.set_cons_zero, List.set_cons_succ]
    refine wpAnyH_take (i := 18) (oi := ⟨_, _, _, _, _, _⟩) (v := undef) rfl (by kernel_rfl) (by kernel_rfl) (by kernel_rfl) (fun _ _ _ h => h) (Or.inr ⟨by rfl, rfl⟩) (by assumption) ?_
    try simp only [Act.put, List.setIfInBounds_toArray, List.set_cons_zero, List.set_cons_succ]
    refine wpAnyH_take (i := 19) (oi := ⟨_, _, _, _, _, _⟩) (v := undef) rfl (by kernel_rfl) (by kernel_rfl) (by kernel_rfl) (fun _ _ _ h => h) (Or.inr ⟨by rfl, rfl⟩) (by assumption) ?_
    try simp only [Act.put, List.setIfInBounds_toArray, List.set_cons_zero, List.set_cons_succ]
    refine wpAnyH_take (i := 20) (oi := ⟨_, _, _, _, _, _⟩) (v := undef) rfl (by kernel_rfl) (by kernel_rfl) (by kernel_rfl) (fun _ _ _ h => h) (Or.inr ⟨by rfl, rfl⟩) (by assumption) ?_
    try simp only [Act.put, List.setIfInBounds_toArray, List.set_cons_zero, List.set_cons_succ]
    refine wpAnyH_take (i := 21) (oi := ⟨_, _, _, _, _, _⟩) (v := undef) rfl (by kernel_rfl) (by kernel_rfl) (by kernel_rfl) (fun _ _ _ h => h) (Or.inr ⟨by rfl, rfl⟩) (by assumption) ?_
    try simp only [Act.put, List.setIfInBounds_toArray, List.set_cons_zero, List.set_cons_succ]
    refine wpAnyH_take (i := 22) (oi := ⟨_, _, _, _, _, _⟩) (v := undef) rfl (by kernel_rfl) (by kernel_rfl) (by kernel_rfl) (fun _ _ _ h => h) (Or.inr ⟨by rfl, rfl⟩) (by assumption) ?_
    try simp only [Act.put, List.setIfInBounds_toArray, List.set_cons_zero, List.set_cons_succ]
    refine wpAnyH_take (i := 23) (oi := ⟨_, _, _, _, _, _⟩) (v := undef) rfl (by kernel_rfl) (by kernel_rfl) (by kernel_rfl) (fun _ _ _ h => h) (Or.inr ⟨by rfl, rfl⟩) (by assumption) ?_
    try simp only [Act.put, List.setIfInBounds_toArray, List.set_cons_zero, List.set_cons_succ]
    refine wpAnyH_take (i := 24) (oi := ⟨_, _, _, _, _, _⟩) (v := undef) rfl (by kernel_rfl) (by kernel_rfl) (by kernel_rfl) (fun _ _ _ h => h) (Or.inr ⟨by rfl, rfl⟩) (by assumption) ?_
    try simp only [Act.put, List.setIfInBounds_toArray, List.set_cons_zero, List.set_cons_succ]
    refine wpAnyH_take (i := 25) (oi := ⟨_, _, _, _, _, _⟩) (v := ?_) rfl (by kernel_rfl) (by kernel_rfl) (by kernel_rfl) (fun _ _ _ h => h) (Or.inl ⟨by rfl, ?_⟩) (by assumption) ?_
    rotate_left 1
    · intro W' hSw
      obtain ⟨hS1, hS2, hS3, hS4, hS5⟩ := hSw
      go_simp
      try with_reducible rfl
    try simp only [Act.put, List.setIfInBounds_toArray, List.set_cons_zero, List.set_cons_succ]
    refine wpAnyH_done (by kernel_rfl) ?_ _
    clear hHeld
    go_wp2_with fail
    refine ⟨rfl, rfl, ⟨⟨rfl, rfl, rfl, rfl, rfl, rfl, rfl⟩, rfl, rfl, c + 1, by omega, ?_, by rw [← HF1.out]; rfl, HVN.out⟩, ?_⟩
    · show Value.int .i64 _ = _
      go_num
    · show xsn - (intOf (Value.int .i64 _)).toNat < xsn - (intOf (G3 16)).toNat
      rw [H16.out]
      simp [intOf]; omega
  | true =>
    by_cases hny : snm = y
    · subst hny
      have hf1 : fk = fitN L r (c + 1) := by rw [HFS.out]; simp
      have HF1 := hid_of hf1
      obtain ⟨sz, hsz⟩ : ∃ sz : ByteArray, sz = ⟨snm.toArray⟩ := ⟨_, rfl⟩
      rw [← hsz] at m11 s3
      clear hf1 hsz
      go_upto_region 23 with fail
      repeat go_step
      refine wp_region_held_drew (S := fun W' => blk W' b7 = some RQ ∧ blk W' bl = some Cl ∧ blk W' bq = some Cq ∧ blk W' bk = some Ck ∧ blk W' bx = some Cx) (by kernel_rfl) hS5 (fun hHeld => ?_)
      refine wpAnyH_take (i := 0) (oi := ⟨_, _, _, _, _, _⟩) (v := ?_) rfl (by kernel_rfl) (by kernel_rfl) (by kernel_rfl) (fun _ _ _ h => h) (Or.inl ⟨by rfl, ?_⟩) (by assumption) ?_
      rotate_left 1
      · intro W' hSw
        obtain ⟨hS1, hS2, hS3, hS4, hS5⟩ := hSw
        go_simp
        try with_reducible rfl
      try simp only [Act.put, List.setIfInBounds_toArray, List.set_cons_zero, List.set_cons_succ]
      refine wpAnyH_take (i := 1) (oi := ⟨_, _, _, _, _, _⟩) (v := ?_) rfl (by kernel_rfl) (by kernel_rfl) (by kernel_rfl) (fun _ _ _ h => h) (Or.inl ⟨by rfl, ?_⟩) (by assumption) ?_
      rotate_left 1
      · intro W' hSw
        obtain ⟨hS1, hS2, hS3, hS4, hS5⟩ := hSw
        go_simp
        try with_reducible rfl
      try simp only [Act.put, List.setIfInBounds_toArray, List.set_cons_zero, List.set_cons_succ]
      refine wpAnyH_take (i := 2) (oi := ⟨_, _, _, _, _, _⟩) (v := ?_) rfl (by kernel_rfl) (by kernel_rfl) (by kernel_rfl) (fun _ _ _ h => h) (Or.inl ⟨by rfl, ?_⟩) (by assumption) ?_
      rotate_left 1
      · intro W' hSw
        obtain ⟨hS1, hS2, hS3, hS4, hS5⟩ := hSw
        go_simp
        try with_reducible rfl
      try simp only [Act.put, List.setIfInBounds_toArray, List.set_cons_zero, List.set_cons_succ]
      refine wpAnyH_take (i := 3) (oi := ⟨_, _, _, _, _, _⟩) (v := ?_) rfl (by kernel_rfl) (by kernel_rfl) (by kernel_rfl) (fun _ _ _ h => h) (Or.inl ⟨by rfl, ?_⟩) (by assumption) ?_
      rotate_left 1
      · intro W' hSw
        obtain ⟨hS1, hS2, hS3, hS4, hS5⟩ := hSw
        go_simp
        try with_reducible rfl
      try simp only [Act.put, List.setIfInBounds_toArray, List.set_cons_zero, List.set_cons_succ]
      refine wpAnyH_take (i := 4) (oi := ⟨_, _, _, _, _, _⟩) (v := ?_) rfl (by kernel_rfl) (by kernel_rfl) (by kernel_rfl) (fun _ _ _ h => h) (Or.inl ⟨by rfl, ?_⟩) (by assumption) ?_
      rotate_left 1
      · intro W' hSw
        obtain ⟨hS1, hS2, hS3, hS4, hS5⟩ := hSw
        go_simp
        try with_reducible rfl
      try simp only [Act.put, List.setIfInBounds_toArray, List.set_cons_zero, List.set_cons_succ]
      refine wpAnyH_take (i := 5) (oi := ⟨_, _, _, _, _, _⟩) (v := ?_) rfl (by kernel_rfl) (by kernel_rfl) (by kernel_rfl) (fun _ _ _ h => h) (Or.inl ⟨by rfl, ?_⟩) (by assumption) ?_
      rotate_left 1
      · intro W' hSw
        obtain ⟨hS1, hS2, hS3, hS4, hS5⟩ := hSw
        go_simp
        try with_reducible rfl
      try simp only [Act.put, List.setIfInBounds_toArray, List.set_cons_zero, List.set_cons_succ]
      refine wpAnyH_take (i := 6) (oi := ⟨_, _, _, _, _, _⟩) (v := ?_) rfl (by kernel_rfl) (by kernel_rfl) (by kernel_rfl) (fun _ _ _ h => h) (Or.inl ⟨by rfl, ?_⟩) (by assumption) ?_
      rotate_left 1
      · intro W' hSw
        obtain ⟨hS1, hS2, hS3, hS4, hS5⟩ := hSw
        go_simp
        try with_reducible rfl
      try simp only [Act.put, List.setIfInBounds_toArray, List.set_cons_zero, List.set_cons_succ]
      refine wpAnyH_take (i := 7) (oi := ⟨_, _, _, _, _, _⟩) (v := ?_) rfl (by kernel_rfl) (by kernel_rfl) (by kernel_rfl) (fun _ _ _ h => h) (Or.inl ⟨by rfl, ?_⟩) (by assumption) ?_
      rotate_left 1
      · intro W' hSw
        obtain ⟨hS1, hS2, hS3, hS4, hS5⟩ := hSw
        go_simp
        try with_reducible rfl
      try simp only [Act.put, List.setIfInBounds_toArray, List.set_cons_zero, List.set_cons_succ]
      refine wpAnyH_take (i := 8) (oi := ⟨_, _, _, _, _, _⟩) (v := ?_) rfl (by kernel_rfl) (by kernel_rfl) (by kernel_rfl) (fun _ _ _ h => h) (Or.inl ⟨by rfl, ?_⟩) (by assumption) ?_
      rotate_left 1
      · intro W' hSw
        obtain ⟨hS1, hS2, hS3, hS4, hS5⟩ := hSw
        go_simp
        try with_reducible rfl
      try simp only [Act.put, List.setIfInBounds_toArray, List.set_cons_zero, List.set_cons_succ]
      refine wpAnyH_take (i := 9) (oi := ⟨_, _, _, _, _, _⟩) (v := ?_) rfl (by kernel_rfl) (by kernel_rfl) (by kernel_rfl) (fun _ _ _ h => h) (Or.inl ⟨by rfl, ?_⟩) (by assumption) ?_
      rotate_left 1
      · intro W' hSw
        obtain ⟨hS1, hS2, hS3, hS4, hS5⟩ := hSw
        go_simp
        try with_reducible rfl
      try simp only [Act.put, List.setIfInBounds_toArray, List.set_cons_zero, List.set_cons_succ]
      refine wpAnyH_take (i := 10) (oi := ⟨_, _, _, _, _, _⟩) (v := ?_) rfl (by kernel_rfl) (by kernel_rfl) (by kernel_rfl) (fun _ _ _ h => h) (Or.inl ⟨by rfl, ?_⟩) (by assumption) ?_
      rotate_left 1
      · intro W' hSw
        obtain ⟨hS1, hS2, hS3, hS4, hS5⟩ := hSw
        go_simp
        try with_reducible rfl
      try simp only [Act.put, List.setIfInBounds_toArray, List.set_cons_zero, List.set_cons_succ]
      refine wpAnyH_take (i := 11) (oi := ⟨_, _, _, _, _, _⟩) (v := ?_) rfl (by kernel_rfl) (by kernel_rfl) (by kernel_rfl) (fun _ _ _ h => h) (Or.inl ⟨by rfl, ?_⟩) (by assumption) ?_
      rotate_left 1
      · intro W' hSw
        obtain ⟨hS1, hS2, hS3, hS4, hS5⟩ := hSw
        go_simp
        try with_reducible rfl
      try simp only [Act.put, List.setIfInBounds_toArray, List.set_cons_zero, List.set_cons_succ]
      refine wpAnyH_take (i := 12) (oi := ⟨_, _, _, _, _, _⟩) (v := ?_) rfl (by kernel_rfl) (by kernel_rfl) (by kernel_rfl) (fun _ _ _ h => h) (Or.inl ⟨by rfl, ?_⟩) (by assumption) ?_
      rotate_left 1
      · intro W' hSw
        obtain ⟨hS1, hS2, hS3, hS4, hS5⟩ := hSw
        go_simp
        try with_reducible rfl
      try simp only [Act.put, List.setIfInBounds_toArray, List.set_cons_zero, List.set_cons_succ]
      refine wpAnyH_take (i := 13) (oi := ⟨_, _, _, _, _, _⟩) (v := ?_) rfl (by kernel_rfl) (by kernel_rfl) (by kernel_rfl) (fun _ _ _ h => h) (Or.inl ⟨by rfl, ?_⟩) (by assumption) ?_
      rotate_left 1
      · intro W' hSw
        obtain ⟨hS1, hS2, hS3, hS4, hS5⟩ := hSw
        go_simp
        try with_reducible rfl
      try simp only [Act.put, List.setIfInBounds_toArray, List.set_cons_zero, List.set_cons_succ]
      refine wpAnyH_take (i := 14) (oi := ⟨_, _, _, _, _, _⟩) (v := ?_) rfl (by kernel_rfl) (by kernel_rfl) (by kernel_rfl) (fun _ _ _ h => h) (Or.inl ⟨by rfl, ?_⟩) (by assumption) ?_
      rotate_left 1
      · intro W' hSw
        obtain ⟨hS1, hS2, hS3, hS4, hS5⟩ := hSw
        go_simp
        try with_reducible rfl
      try simp only [Act.put, List.setIfInBounds_toArray, List.set_cons_zero, List.set_cons_succ]
      refine wpAnyH_take (i := 15) (oi := ⟨_, _, _, _, _, _⟩) (v := ?_) rfl (by kernel_rfl) (by kernel_rfl) (by kernel_rfl) (fun _ _ _ h => h) (Or.inl ⟨by rfl, ?_⟩) (by assumption) ?_
      rotate_left 1
      · intro W' hSw
        obtain ⟨hS1, hS2, hS3, hS4, hS5⟩ := hSw
        go_simp
        try with_reducible rfl
      try simp only [Act.put, List.setIfInBounds_toArray, List.set_cons_zero, List.set_cons_succ]
      refine wpAnyH_take (i := 16) (oi := ⟨_, _, _, _, _, _⟩) (v := ?_) rfl (by kernel_rfl) (by kernel_rfl) (by kernel_rfl) (fun _ _ _ h => h) (Or.inl ⟨by rfl, ?_⟩) (by assumption) ?_
      rotate_left 1
      · intro W' hSw
        obtain ⟨hS1, hS2, hS3, hS4, hS5⟩ := hSw
        go_simp
        try with_reducible rfl
      try simp only [Act.put, List.setIfInBounds_toArray, List.set_cons_zero, List.set_cons_succ]
      refine wpAnyH_take (i := 17) (oi := ⟨_, _, _, _, _, _⟩) (v := ?_) rfl (by kernel_rfl) (by kernel_rfl) (by kernel_rfl) (fun _ _ _ h => h) (Or.inl ⟨by rfl, ?_⟩) (by assumption) ?_
      rotate_left 1
      · intro W' hSw
        obtain ⟨hS1, hS2, hS3, hS4, hS5⟩ := hSw
        go_simp
        try with_reducible rfl
      try simp only [Act.put, List.setIfInBounds_toArray, List.set_cons_zero, List.set_cons_succ]
      refine wpAnyH_take (i := 18) (oi := ⟨_, _, _, _, _, _⟩) (v := ?_) rfl (by kernel_rfl) (by kernel_rfl) (by kernel_rfl) (fun _ _ _ h => h) (Or.inl ⟨by rfl, ?_⟩) (by assumption) ?_
      rotate_left 1
      · intro W' hSw
        obtain ⟨hS1, hS2, hS3, hS4, hS5⟩ := hSw
        go_simp
        try with_reducible rfl
      try simp only [Act.put, List.setIfInBounds_toArray, List.set_cons_zero, List.set_cons_succ]
      refine wpAnyH_take (i := 19) (oi := ⟨_, _, _, _, _, _⟩) (v := ?_) rfl (by kernel_rfl) (by kernel_rfl) (by kernel_rfl) (fun _ _ _ h => h) (Or.inl ⟨by rfl, ?_⟩) (by assumption) ?_
      rotate_left 1
      · intro W' hSw
        obtain ⟨hS1, hS2, hS3, hS4, hS5⟩ := hSw
        go_simp
        try with_reducible rfl
      try simp only [Act.put, List.setIfInBounds_toArray, List.set_cons_zero, List.set_cons_succ]
      refine wpAnyH_take (i := 20) (oi := ⟨_, _, _, _, _, _⟩) (v := ?_) rfl (by kernel_rfl) (by kernel_rfl) (by kernel_rfl) (fun _ _ _ h => h) (Or.inl ⟨by rfl, ?_⟩) (by assumption) ?_
      rotate_left 1
      · intro W' hSw
        obtain ⟨hS1, hS2, hS3, hS4, hS5⟩ := hSw
        go_simp
        try with_reducible rfl
      try simp only [Act.put, List.setIfInBounds_toArray, List.set_cons_zero, List.set_cons_succ]
      refine wpAnyH_take (i := 21) (oi := ⟨_, _, _, _, _, _⟩) (v := ?_) rfl (by kernel_rfl) (by kernel_rfl) (by kernel_rfl) (fun _ _ _ h => h) (Or.inl ⟨by rfl, ?_⟩) (by assumption) ?_
      rotate_left 1
      · intro W' hSw
        obtain ⟨hS1, hS2, hS3, hS4, hS5⟩ := hSw
        go_simp
        try with_reducible rfl
      try simp only [Act.put, List.setIfInBounds_toArray, List.set_cons_zero, List.set_cons_succ]
      refine wpAnyH_take (i := 22) (oi := ⟨_, _, _, _, _, _⟩) (v := ?_) rfl (by kernel_rfl) (by kernel_rfl) (by kernel_rfl) (fun _ _ _ h => h) (Or.inl ⟨by rfl, ?_⟩) (by assumption) ?_
      rotate_left 1
      · intro W' hSw
        obtain ⟨hS1, hS2, hS3, hS4, hS5⟩ := hSw
        go_simp
        try with_reducible rfl
      try simp only [Act.put, List.setIfInBounds_toArray, List.set_cons_zero, List.set_cons_succ]
      refine wpAnyH_take (i := 23) (oi := ⟨_, _, _, _, _, _⟩) (v := ?_) rfl (by kernel_rfl) (by kernel_rfl) (by kernel_rfl) (fun _ _ _ h => h) (Or.inl ⟨by rfl, ?_⟩) (by assumption) ?_
      rotate_left 1
      · intro W' hSw
        obtain ⟨hS1, hS2, hS3, hS4, hS5⟩ := hSw
        go_simp
        try with_reducible rfl
      try simp only [Act.put, List.setIfInBounds_toArray, List.set_cons_zero, List.set_cons_succ]
      refine wpAnyH_take (i := 24) (oi := ⟨_, _, _, _, _, _⟩) (v := ?_) rfl (by kernel_rfl) (by kernel_rfl) (by kernel_rfl) (fun _ _ _ h => h) (Or.inl ⟨by rfl, ?_⟩) (by assumption) ?_
      rotate_left 1
      · intro W' hSw
        obtain ⟨hS1, hS2, hS3, hS4, hS5⟩ := hSw
        go_simp
        try with_reducible rfl
      try simp only [Act.put, List.setIfInBounds_toArray, List.set_cons_zero, List.set_cons_succ]
      refine wpAnyH_take (i := 25) (oi := ⟨_, _, _, _, _, _⟩) (v := ?_) rfl (by kernel_rfl) (by kernel_rfl) (by kernel_rfl) (fun _ _ _ h => h) (Or.inl ⟨by rfl, ?_⟩) (by assumption) ?_
      rotate_left 1
      · intro W' hSw
        obtain ⟨hS1, hS2, hS3, hS4, hS5⟩ := hSw
        go_simp
        try with_reducible rfl
      try simp only [Act.put, List.setIfInBounds_toArray, List.set_cons_zero, List.set_cons_succ]
      refine wpAnyH_done (by kernel_rfl) ?_ _
      clear hHeld
      go_wp2_with fail
      refine ⟨rfl, rfl, ⟨⟨rfl, rfl, rfl, rfl, rfl, rfl, rfl⟩, rfl, rfl, c + 1, by omega, ?_, by rw [← HF1.out]; rfl, HVN.out⟩, ?_⟩
      · show Value.int .i64 _ = _
        go_num
      · show xsn - (intOf (Value.int .i64 _)).toNat < xsn - (intOf (G3 16)).toNat
        rw [H16.out]
        simp [intOf]; omega
    · have hf1 : fitN L r (c + 1) = false := by rw [HFS.out, decide_eq_false hny]; simp
      have HF1 := hid_of hf1
      have hbe := str_beq hny
      have hne := str_ne hny
      clear hf1
      go_upto_region 23 with fail
      repeat go_step
      refine wp_region_held_drew (S := fun W' => blk W' b7 = some RQ ∧ blk W' bl = some Cl ∧ blk W' bq = some Cq ∧ blk W' bk = some Ck ∧ blk W' bx = some Cx) (by kernel_rfl) hS5 (fun hHeld => ?_)
      refine wpAnyH_take (i := 0) (oi := ⟨_, _, _, _, _, _⟩) (v := ?_) rfl (by kernel_rfl) (by kernel_rfl) (by kernel_rfl) (fun _ _ _ h => h) (Or.inl ⟨by rfl, ?_⟩) (by assumption) ?_
      rotate_left 1
      · intro W' hSw
        obtain ⟨hS1, hS2, hS3, hS4, hS5⟩ := hSw
        go_simp
        try with_reducible rfl
      try simp only [Act.put, List.setIfInBounds_toArray, List.set_cons_zero, List.set_cons_succ]
      refine wpAnyH_take (i := 1) (oi := ⟨_, _, _, _, _, _⟩) (v := ?_) rfl (by kernel_rfl) (by kernel_rfl) (by kernel_rfl) (fun _ _ _ h => h) (Or.inl ⟨by rfl, ?_⟩) (by assumption) ?_
      rotate_left 1
      · intro W' hSw
        obtain ⟨hS1, hS2, hS3, hS4, hS5⟩ := hSw
        go_simp
        try with_reducible rfl
      try simp only [Act.put, List.setIfInBounds_toArray, List.set_cons_zero, List.set_cons_succ]
      refine wpAnyH_take (i := 2) (oi := ⟨_, _, _, _, _, _⟩) (v := ?_) rfl (by kernel_rfl) (by kernel_rfl) (by kernel_rfl) (fun _ _ _ h => h) (Or.inl ⟨by rfl, ?_⟩) (by assumption) ?_
      rotate_left 1
      · intro W' hSw
        obtain ⟨hS1, hS2, hS3, hS4, hS5⟩ := hSw
        go_simp
        try with_reducible rfl
      try simp only [Act.put, List.setIfInBounds_toArray, List.set_cons_zero, List.set_cons_succ]
      refine wpAnyH_take (i := 3) (oi := ⟨_, _, _, _, _, _⟩) (v := ?_) rfl (by kernel_rfl) (by kernel_rfl) (by kernel_rfl) (fun _ _ _ h => h) (Or.inl ⟨by rfl, ?_⟩) (by assumption) ?_
      rotate_left 1
      · intro W' hSw
        obtain ⟨hS1, hS2, hS3, hS4, hS5⟩ := hSw
        go_simp
        try with_reducible rfl
      try simp only [Act.put, List.setIfInBounds_toArray, List.set_cons_zero, List.set_cons_succ]
      refine wpAnyH_take (i := 4) (oi := ⟨_, _, _, _, _, _⟩) (v := ?_) rfl (by kernel_rfl) (by kernel_rfl) (by kernel_rfl) (fun _ _ _ h => h) (Or.inl ⟨by rfl, ?_⟩) (by assumption) ?_
      rotate_left 1
      · intro W' hSw
        obtain ⟨hS1, hS2, hS3, hS4, hS5⟩ := hSw
        go_simp
        try with_reducible rfl
      try simp only [Act.put, List.setIfInBounds_toArray, List.set_cons_zero, List.set_cons_succ]
      refine wpAnyH_take (i := 5) (oi := ⟨_, _, _, _, _, _⟩) (v := ?_) rfl (by kernel_rfl) (by kernel_rfl) (by kernel_rfl) (fun _ _ _ h => h) (Or.inl ⟨by rfl, ?_⟩) (by assumption) ?_
      rotate_left 1
      · intro W' hSw
        obtain ⟨hS1, hS2, hS3, hS4, hS5⟩ := hSw
        go_simp
        try with_reducible rfl
      try simp only [Act.put, List.setIfInBounds_toArray, List.set_cons_zero, List.set_cons_succ]
      refine wpAnyH_take (i := 6) (oi := ⟨_, _, _, _, _, _⟩) (v := ?_) rfl (by kernel_rfl) (by kernel_rfl) (by kernel_rfl) (fun _ _ _ h => h) (Or.inl ⟨by rfl, ?_⟩) (by assumption) ?_
      rotate_left 1
      · intro W' hSw
        obtain ⟨hS1, hS2, hS3, hS4, hS5⟩ := hSw
        go_simp
        try with_reducible rfl
      try simp only [Act.put, List.setIfInBounds_toArray, List.set_cons_zero, List.set_cons_succ]
      refine wpAnyH_take (i := 7) (oi := ⟨_, _, _, _, _, _⟩) (v := ?_) rfl (by kernel_rfl) (by kernel_rfl) (by kernel_rfl) (fun _ _ _ h => h) (Or.inl ⟨by rfl, ?_⟩) (by assumption) ?_
      rotate_left 1
      · intro W' hSw
        obtain ⟨hS1, hS2, hS3, hS4, hS5⟩ := hSw
        go_simp
        try with_reducible rfl
      try simp only [Act.put, List.setIfInBounds_toArray, List.set_cons_zero, List.set_cons_succ]
      refine wpAnyH_take (i := 8) (oi := ⟨_, _, _, _, _, _⟩) (v := ?_) rfl (by kernel_rfl) (by kernel_rfl) (by kernel_rfl) (fun _ _ _ h => h) (Or.inl ⟨by rfl, ?_⟩) (by assumption) ?_
      rotate_left 1
      · intro W' hSw
        obtain ⟨hS1, hS2, hS3, hS4, hS5⟩ := hSw
        go_simp
        try with_reducible rfl
      try simp only [Act.put, List.setIfInBounds_toArray, List.set_cons_zero, List.set_cons_succ]
      refine wpAnyH_take (i := 9) (oi := ⟨_, _, _, _, _, _⟩) (v := ?_) rfl (by kernel_rfl) (by kernel_rfl) (by kernel_rfl) (fun _ _ _ h => h) (Or.inl ⟨by rfl, ?_⟩) (by assumption) ?_
      rotate_left 1
      · intro W' hSw
        obtain ⟨hS1, hS2, hS3, hS4, hS5⟩ := hSw
        go_simp
        try with_reducible rfl
      try simp only [Act.put, List.setIfInBounds_toArray, List.set_cons_zero, List.set_cons_succ]
      refine wpAnyH_take (i := 10) (oi := ⟨_, _, _, _, _, _⟩) (v := ?_) rfl (by kernel_rfl) (by kernel_rfl) (by kernel_rfl) (fun _ _ _ h => h) (Or.inl ⟨by rfl, ?_⟩) (by assumption) ?_
      rotate_left 1
      · intro W' hSw
        obtain ⟨hS1, hS2, hS3, hS4, hS5⟩ := hSw
        go_simp
        try with_reducible rfl
      try simp only [Act.put, List.setIfInBounds_toArray, List.set_cons_zero, List.set_cons_succ]
      refine wpAnyH_take (i := 11) (oi := ⟨_, _, _, _, _, _⟩) (v := ?_) rfl (by kernel_rfl) (by kernel_rfl) (by kernel_rfl) (fun _ _ _ h => h) (Or.inl ⟨by rfl, ?_⟩) (by assumption) ?_
      rotate_left 1
      · intro W' hSw
        obtain ⟨hS1, hS2, hS3, hS4, hS5⟩ := hSw
        go_simp
        try with_reducible rfl
      try simp only [Act.put, List.setIfInBounds_toArray, List.set_cons_zero, List.set_cons_succ]
      refine wpAnyH_take (i := 12) (oi := ⟨_, _, _, _, _, _⟩) (v := ?_) rfl (by kernel_rfl) (by kernel_rfl) (by kernel_rfl) (fun _ _ _ h => h) (Or.inl ⟨by rfl, ?_⟩) (by assumption) ?_
      rotate_left 1
      · intro W' hSw
        obtain ⟨hS1, hS2, hS3, hS4, hS5⟩ := hSw
        go_simp
        try with_reducible rfl
      try simp only [Act.put, List.setIfInBounds_toArray, List.set_cons_zero, List.set_cons_succ]
      refine wpAnyH_take (i := 13) (oi := ⟨_, _, _, _, _, _⟩) (v := ?_) rfl (by kernel_rfl) (by kernel_rfl) (by kernel_rfl) (fun _ _ _ h => h) (Or.inl ⟨by rfl, ?_⟩) (by assumption) ?_
      rotate_left 1
      · intro W' hSw
        obtain ⟨hS1, hS2, hS3, hS4, hS5⟩ := hSw
        go_simp
        try with_reducible rfl
      try simp only [Act.put, List.setIfInBounds_toArray, List.set_cons_zero, List.set_cons_succ]
      refine wpAnyH_take (i := 14) (oi := ⟨_, _, _, _, _, _⟩) (v := ?_) rfl (by kernel_rfl) (by kernel_rfl) (by kernel_rfl) (fun _ _ _ h => h) (Or.inl ⟨by rfl, ?_⟩) (by assumption) ?_
      rotate_left 1
      · intro W' hSw
        obtain ⟨hS1, hS2, hS3, hS4, hS5⟩ := hSw
        go_simp
        try with_reducible rfl
      try simp only [Act.put, List.setIfInBounds_toArray, List.set_cons_zero, List.set_cons_succ]
      refine wpAnyH_take (i := 15) (oi := ⟨_, _, _, _, _, _⟩) (v := ?_) rfl (by kernel_rfl) (by kernel_rfl) (by kernel_rfl) (fun _ _ _ h => h) (Or.inl ⟨by rfl, ?_⟩) (by assumption) ?_
      rotate_left 1
      · intro W' hSw
        obtain ⟨hS1, hS2, hS3, hS4, hS5⟩ := hSw
        go_simp
        try with_reducible rfl
      try simp only [Act.put, List.setIfInBounds_toArray, List.set_cons_zero, List.set_cons_succ]
      refine wpAnyH_take (i := 16) (oi := ⟨_, _, _, _, _, _⟩) (v := ?_) rfl (by kernel_rfl) (by kernel_rfl) (by kernel_rfl) (fun _ _ _ h => h) (Or.inl ⟨by rfl, ?_⟩) (by assumption) ?_
      rotate_left 1
      · intro W' hSw
        obtain ⟨hS1, hS2, hS3, hS4, hS5⟩ := hSw
        go_simp
        try with_reducible rfl
      try simp only [Act.put, List.setIfInBounds_toArray, List.set_cons_zero, List.set_cons_succ]
      refine wpAnyH_take (i := 17) (oi := ⟨_, _, _, _, _, _⟩) (v := ?_) rfl (by kernel_rfl) (by kernel_rfl) (by kernel_rfl) (fun _ _ _ h => h) (Or.inl ⟨by rfl, ?_⟩) (by assumption) ?_
      rotate_left 1
      · intro W' hSw
        obtain ⟨hS1, hS2, hS3, hS4, hS5⟩ := hSw
        go_simp
        try with_reducible rfl
      try simp only [Act.put, List.setIfInBounds_toArray, List.set_cons_zero, List.set_cons_succ]
      refine wpAnyH_take (i := 18) (oi := ⟨_, _, _, _, _, _⟩) (v := ?_) rfl (by kernel_rfl) (by kernel_rfl) (by kernel_rfl) (fun _ _ _ h => h) (Or.inl ⟨by rfl, ?_⟩) (by assumption) ?_
      rotate_left 1
      · intro W' hSw
        obtain ⟨hS1, hS2, hS3, hS4, hS5⟩ := hSw
        go_simp
        try with_reducible rfl
      try simp only [Act.put, List.setIfInBounds_toArray, List.set_cons_zero, List.set_cons_succ]
      refine wpAnyH_take (i := 19) (oi := ⟨_, _, _, _, _, _⟩) (v := ?_) rfl (by kernel_rfl) (by kernel_rfl) (by kernel_rfl) (fun _ _ _ h => h) (Or.inl ⟨by rfl, ?_⟩) (by assumption) ?_
      rotate_left 1
      · intro W' hSw
        obtain ⟨hS1, hS2, hS3, hS4, hS5⟩ := hSw
        go_simp
        try with_reducible rfl
      try simp only [Act.put, List.setIfInBounds_toArray, List.set_cons_zero, List.set_cons_succ]
      refine wpAnyH_take (i := 20) (oi := ⟨_, _, _, _, _, _⟩) (v := ?_) rfl (by kernel_rfl) (by kernel_rfl) (by kernel_rfl) (fun _ _ _ h => h) (Or.inl ⟨by rfl, ?_⟩) (by assumption) ?_
      rotate_left 1
      · intro W' hSw
        obtain ⟨hS1, hS2, hS3, hS4, hS5⟩ := hSw
        go_simp
        try with_reducible rfl
      try simp only [Act.put, List.setIfInBounds_toArray, List.set_cons_zero, List.set_cons_succ]
      refine wpAnyH_take (i := 21) (oi := ⟨_, _, _, _, _, _⟩) (v := ?_) rfl (by kernel_rfl) (by kernel_rfl) (by kernel_rfl) (fun _ _ _ h => h) (Or.inl ⟨by rfl, ?_⟩) (by assumption) ?_
      rotate_left 1
      · intro W' hSw
        obtain ⟨hS1, hS2, hS3, hS4, hS5⟩ := hSw
        go_simp
        try with_reducible rfl
      try simp only [Act.put, List.setIfInBounds_toArray, List.set_cons_zero, List.set_cons_succ]
      refine wpAnyH_take (i := 22) (oi := ⟨_, _, _, _, _, _⟩) (v := ?_) rfl (by kernel_rfl) (by kernel_rfl) (by kernel_rfl) (fun _ _ _ h => h) (Or.inl ⟨by rfl, ?_⟩) (by assumption) ?_
      rotate_left 1
      · intro W' hSw
        obtain ⟨hS1, hS2, hS3, hS4, hS5⟩ := hSw
        go_simp
        try with_reducible rfl
      try simp only [Act.put, List.setIfInBounds_toArray, List.set_cons_zero, List.set_cons_succ]
      refine wpAnyH_take (i := 23) (oi := ⟨_, _, _, _, _, _⟩) (v := ?_) rfl (by kernel_rfl) (by kernel_rfl) (by kernel_rfl) (fun _ _ _ h => h) (Or.inl ⟨by rfl, ?_⟩) (by assumption) ?_
      rotate_left 1
      · intro W' hSw
        obtain ⟨hS1, hS2, hS3, hS4, hS5⟩ := hSw
        go_simp
        try with_reducible rfl
      try simp only [Act.put, List.setIfInBounds_toArray, List.set_cons_zero, List.set_cons_succ]
      refine wpAnyH_take (i := 24) (oi := ⟨_, _, _, _, _, _⟩) (v := ?_) rfl (by kernel_rfl) (by kernel_rfl) (by kernel_rfl) (fun _ _ _ h => h) (Or.inl ⟨by rfl, ?_⟩) (by assumption) ?_
      rotate_left 1
      · intro W' hSw
        obtain ⟨hS1, hS2, hS3, hS4, hS5⟩ := hSw
        go_simp
        try with_reducible rfl
      try simp only [Act.put, List.setIfInBounds_toArray, List.set_cons_zero, List.set_cons_succ]
      refine wpAnyH_take (i := 25) (oi := ⟨_, _, _, _, _, _⟩) (v := ?_) rfl (by kernel_rfl) (by kernel_rfl) (by kernel_rfl) (fun _ _ _ h => h) (Or.inl ⟨by rfl, ?_⟩) (by assumption) ?_
      rotate_left 1
      · intro W' hSw
        obtain ⟨hS1, hS2, hS3, hS4, hS5⟩ := hSw
        go_simp
        try with_reducible rfl
      try simp only [Act.put, List.setIfInBounds_toArray, List.set_cons_zero, List.set_cons_succ]
      refine wpAnyH_done (by kernel_rfl) ?_ _
      clear hHeld
      go_wp2_with fail
      refine ⟨rfl, rfl, ⟨⟨rfl, rfl, rfl, rfl, rfl, rfl, rfl⟩, rfl, rfl, c + 1, by omega, ?_, by rw [HF1.out]; rfl, HVN.out⟩, ?_⟩
      · show Value.int .i64 _ = _
        go_num
      · show xsn - (intOf (Value.int .i64 _)).toNat < xsn - (intOf (G3 16)).toNat
        rw [H16.out]
        simp [intOf]; omega
end Go.Proofs.Qxb6500787aGreat
