import Derived.Test.Qxb6500787aGreatEp
import Derived.Test.Qxb6500787aGreatEn
import Derived.Test.Qxb6500787aGreatEk
import Derived.Test.Qxb6500787aGreatNc
import Derived.Test.Qxb6500787aGreatEm

import Derived.StillTailTactics
import Derived.Deep.QuietTactic
import Derived.BigQuiet
import Derived.Deep.RegionHeld
import Derived.Deep.CutRange
import Derived.Laws.ResultCell
import Derived.Laws.Rows
import Derived.DeepKeys
import Derived.DataBytes
import Derived.Laws.StructEq
import Derived.Laws.AppendOwn
import Derived.Laws.MakeOwn
import Derived.Lib.AppendStr
set_option linter.unusedSimpArgs false
set_option linter.unusedVariables false
namespace Go.Proofs.Qxb6500787aGreat
open Go.RowKit Go.Blk
attribute [local go_sem ↓] execOp_load execOp_store execOp_alloc
attribute [local go_sem] Tryz.ld26 Tryz.st26 Tryz.ld27 Tryz.st27 Tryz.ld28 Tryz.st28 Tryz.ld3 Tryz.st3 Tryz.ld29 Tryz.st29 Tryz.ld44 Tryz.st44 Tryz.ld4 Tryz.st4 Tryz.ld50 Tryz.st50 Tryz.ld32 Tryz.st32 Tryz.ld49 Tryz.st49 Tryz.ld68 Tryz.st68 Tryz.ld9 Tryz.st9 Tryz.ld40 Tryz.st40 Tryz.ld138 Tryz.st138 Tryz.ld139 Tryz.st139 Tryz.ld146 Tryz.st146 Tryz.ld183 Tryz.st183 Tryz.ld184 Tryz.st184 Tryz.ld192 Tryz.st192 Tryz.ld195 Tryz.st195 Tryz.ld217 Tryz.st217 Tryz.ld159 Tryz.st159 Tryz.ld142 Tryz.st142 Tryz.ld2 Tryz.st2 Tryz.ld5 Tryz.st5 Tryz.ld12 Tryz.st12 Tryz.ld21 Tryz.st21 Tryz.ld22 Tryz.st22 Tryz.ld24 Tryz.st24 Tryz.ld58 Tryz.st58 Tryz.ld97 Tryz.st97 Tryz.ld101 Tryz.st101 Tryz.ld116 Tryz.st116 Tryz.ld121 Tryz.st121 Tryz.ld135 Tryz.st135 Tryz.ld136 Tryz.st136 Tryz.ld143 Tryz.st143 Tryz.ld148 Tryz.st148 Tryz.ld154 Tryz.st154 Tryz.ld173 Tryz.st173 Tryz.ld187 Tryz.st187 Tryz.ld222 Tryz.st222 Tryz.ld241 Tryz.st241 Tryz.ld248 Tryz.st248 Tryz.ld268 Tryz.st268 Tryz.ld272 Tryz.st272 Tryz.ld153 Tryz.st153 Tryz.ld255 Tryz.st255 Tryz.ld256 Tryz.st256 Tryz.ld129 Tryz.st129 Tryz.ld152 Tryz.st152 Tryz.ld31 Tryz.st31 Tryz.ld46 Tryz.st46 Tryz.ld52 Tryz.st52 Tryz.ld54 Tryz.st54 Tryz.ld60 Tryz.st60 Tryz.ld70 Tryz.st70 Tryz.ld74 Tryz.st74 Tryz.ld93 Tryz.st93 Tryz.ld141 Tryz.st141 Tryz.ld151 Tryz.st151 Tryz.ld170 Tryz.st170 Tryz.ld186 Tryz.st186 Tryz.ld189 Tryz.st189 Tryz.ld194 Tryz.st194 Tryz.ld197 Tryz.st197 Tryz.ld219 Tryz.st219 Tryz.ld224 Tryz.st224 Tryz.ld230 Tryz.st230 Tryz.ld235 Tryz.st235 Tryz.ld243 Tryz.st243 Tryz.ld247 Tryz.st247 Tryz.ld252 Tryz.st252 Tryz.ld258 Tryz.st258 Tryz.al153 Tryz.al255 Tryz.al256 Tryz.al129 Tryz.al152 Tryz.al31 Tryz.al46 Tryz.al52 Tryz.al54 Tryz.al60 Tryz.al70 Tryz.al74 Tryz.al93 Tryz.al141 Tryz.al151 Tryz.al170 Tryz.al186 Tryz.al189 Tryz.al194 Tryz.al197 Tryz.al219 Tryz.al224 Tryz.al230 Tryz.al235 Tryz.al243 Tryz.al247 Tryz.al252 Tryz.al258
attribute [local go_sem] Request.length_enc Request.ok_enc Request.all_get Request.all_set Request.kind_get Request.kind_set Request.blob_get Request.blob_set Request.items_get Request.items_set Request.pred_get Request.pred_set Request.slots_get Request.slots_set Trace.length_enc Trace.ok_enc Trace.all_get Trace.all_set Trace.op_get Trace.op_set Trace.calls_get Trace.calls_set Item.length_enc Item.ok_enc Item.all_get Item.all_set Item.del_get Item.del_set Item.pred_get Item.pred_set Item.args_get Item.args_set Reply.length_enc Reply.ok_enc Reply.all_get Reply.all_set Reply.code_get Reply.code_set Reply.kind_get Reply.kind_set Reply.index_get Reply.index_set Reply.yes_get Reply.yes_set Reply.preds_get Reply.preds_set Reply.rules_get Reply.rules_set Reply.arity_get Reply.arity_set Reply.rows_get Reply.rows_set Reply.fact_get Reply.fact_set Reply.fact_del_get Reply.fact_del_set Reply.fact_pred_get Reply.fact_pred_set Reply.fact_args_get Reply.fact_args_set GEntry.length_enc GEntry.ok_enc GEntry.all_get GEntry.all_set GEntry.seq_get GEntry.seq_set GEntry.kind_get GEntry.kind_set GEntry.code_get GEntry.code_set GOp.length_enc GOp.ok_enc GOp.all_get GOp.all_set GOp.kind_get GOp.kind_set GOp.raw_get GOp.raw_set Reader.length_enc Reader.ok_enc Reader.all_get Reader.all_set Reader.buf_get Reader.buf_set Reader.at__get Reader.at__set Slot.length_enc Slot.ok_enc Slot.all_get Slot.all_set Slot.bound_get Slot.bound_set Slot.name_get Slot.name_set Session.length_enc Session.ok_enc Session.all_get Session.all_set Session.svc_get Session.svc_set Session.buf_get Session.buf_set Session.closed_get Session.closed_set GProgram.length_enc GProgram.ok_enc GProgram.all_get GProgram.all_set GProgram.pool_get GProgram.pool_set GProgram.preds_get GProgram.preds_set GProgram.rules_get GProgram.rules_set GProgram.strata_get GProgram.strata_set PredInfo.length_enc PredInfo.ok_enc PredInfo.all_get PredInfo.all_set PredInfo.arity_get PredInfo.arity_set PredInfo.base_get PredInfo.base_set PredInfo.stratum_get PredInfo.stratum_set Change.length_enc Change.ok_enc Change.all_get Change.all_set Change.del_get Change.del_set Change.pred_get Change.pred_set Change.t_get Change.t_set Store.length_enc Store.ok_enc Store.all_get Store.all_set Store.names_get Store.names_set Store.arity_get Store.arity_set Store.rows_get Store.rows_set Src.length_enc Src.ok_enc Src.all_get Src.all_set Src.b_get Src.b_set Src.at__get Src.at__set Atom.length_enc Atom.ok_enc Atom.all_get Atom.all_set Atom.pred_get Atom.pred_set Atom.args_get Atom.args_set GRule.length_enc GRule.ok_enc GRule.all_get GRule.all_set GRule.head_get GRule.head_set GRule.body_get GRule.body_set GRule.head_pred_get GRule.head_pred_set GRule.head_args_get GRule.head_args_set Cert.length_enc Cert.ok_enc Cert.all_get Cert.all_set Cert.names_get Cert.names_set Cert.nodes_get Cert.nodes_set Fact.length_enc Fact.ok_enc Fact.all_get Fact.all_set Fact.pred_get Fact.pred_set Fact.t_get Fact.t_set Literal.length_enc Literal.ok_enc Literal.all_get Literal.all_set Literal.neg_get Literal.neg_set Literal.atom_get Literal.atom_set Literal.atom_pred_get Literal.atom_pred_set Literal.atom_args_get Literal.atom_args_set Engine.length_enc Engine.ok_enc Engine.all_get Engine.all_set Engine.prog_get Engine.prog_set Engine.st_get Engine.st_set SrcCertm.length_enc SrcCertm.ok_enc SrcCertm.all_get SrcCertm.all_set SrcCertm.b_get SrcCertm.b_set SrcCertm.at__get SrcCertm.at__set GNode.length_enc GNode.ok_enc GNode.all_get GNode.all_set GNode.rule_get GNode.rule_set GNode.pred_get GNode.pred_set GNode.vals_get GNode.vals_set GNode.refs_get GNode.refs_set Term.length_enc Term.ok_enc Term.all_get Term.all_set Term.var_get Term.var_set Term.n_get Term.n_set Env.length_enc Env.ok_enc Env.all_get Env.all_set Env.val_get Env.val_set Env.set_get Env.set_set
attribute [local go_sem] size_put size_ext blk_put free_put blk_alloc free_alloc blk_drew free_drew blk_ext free_ext lookOr_some putOr_some segAt_some cellAt_some storeIn_some put_put put_alloc_new length_arr ok_arr_u8 ok_arr_u32 ok_arr_u64 ok_arr_i64 ok_arr_sl cellsV_agg cellsV_int cellsV_bool cellsV_string cellsV_pointer cellsV_slice cellsV_sl ok_int ok_bool ok_string ok_pointer ok_slice ok_sl toList_arr seg_arr set_arr nth_splice nth_splice0 seg_splice seg_splice0 splice_splice splice_splice0 length_splice_if
attribute [local go_sem ↓] execOp_box
attribute [local go_sem] box_run nth_arr_u8 put_arr_u8 blk_drewN free_drewN put_drewN blk_raw free_raw

/-- How a statement that is cut around ends. -/
structure CutEnd (N : Nat) (I : (Nat → Value) → World → Prop) (a' : Act) (w' : World) : Prop where
  size : a'.tmps.size = N
  defers : a'.defers = []
  rel : I (slots a'.tmps) w'
theorem wp_cut_f {P : Program} {c : Code} {K : Act → World → Prop} {Q : Exit → Act → World → Prop} {a : Act} {w : World} (N : Nat) (I : (Nat → Value) → World → Prop) (first : c.wp P (Exit.then (CutEnd N I) Q) a w) (rest : ∀ f w', I f w' → K ⟨frameN N f, []⟩ w') : c.wp P (Exit.then K Q) a w := by
  refine Code.wp_mono ?_ first
  intro e a' w' hq
  cases e with
  | normal =>
    obtain ⟨t, d⟩ := a'
    obtain ⟨h1, h2, h3⟩ := hq
    have h4 := rest _ _ h3
    simp only at h1 h2 h4
    rw [frameN_slots t N h1] at h4
    subst h2
    exact h4
  | _ => exact hq
def l8I (Ob : Own) (Wb : World) (bs bm : Nat) (A : Option Addr) (N Cp : Nat) (f : Nat → Value) (V : World) : Prop := f 3 = .pointer (some ⟨bs, 0, none⟩) ∧ f 4 = .pointer (some ⟨bm, 0, none⟩) ∧ f 5 = .slice A N Cp ∧ ∃ i : Nat, i ≤ N ∧ f 6 = .int .i64 (i : Nat) ∧ Hid (∃ s m O g, JM Ob Wb bs bm (1000 + 10 * (i : Int)) s m O g V)
theorem rqC_sub {W V : World} {k : Int} {ba : Option Addr} {bn bc : Nat} {ia : Option Addr} {iN : Nat} {p : Int} {sa : Option Addr} {sn : Nat} {q : Rq} (h : RqC W k ba bn bc ia iN p sa sn q) (hs : Sub W V) : RqC V k ba bn bc ia iN p sa sn q := ⟨h.1, h.2.1.sub hs, h.2.2.1, h.2.2.2.1, h.2.2.2.2.1.sub hs, h.2.2.2.2.2.1, h.2.2.2.2.2.2.sub hs⟩
def zFU (s : Sv) (raw : List UInt8) (fb : Bool) : Prop := ∀ q s', svR s raw q s' → RepB q → (q.code = 16 ↔ fb = true)
def c8C (bs bm b7 : Nat) (A : Option Addr) (N Cp i : Nat) (dc : Int) (f : Nat → Value) : Prop := f 3 = .pointer (some ⟨bs, 0, none⟩) ∧ f 4 = .pointer (some ⟨bm, 0, none⟩) ∧ f 5 = .slice A N Cp ∧ f 6 = .int .i64 (i : Nat) ∧ f 7 = .pointer (some ⟨b7, 0, none⟩) ∧ f 8 = .int .i64 dc
set_option maxRecDepth 100000 in
theorem zframe174 (f : Nat → Value) : frameN 174 f = #[f 0, f 1, f 2, f 3, f 4, f 5, f 6, f 7, f 8, f 9, f 10, f 11, f 12, f 13, f 14, f 15, f 16, f 17, f 18, f 19, f 20, f 21, f 22, f 23, f 24, f 25, f 26, f 27, f 28, f 29, f 30, f 31, f 32, f 33, f 34, f 35, f 36, f 37, f 38, f 39, f 40, f 41, f 42, f 43, f 44, f 45, f 46, f 47, f 48, f 49, f 50, f 51, f 52, f 53, f 54, f 55, f 56, f 57, f 58, f 59, f 60, f 61, f 62, f 63, f 64, f 65, f 66, f 67, f 68, f 69, f 70, f 71, f 72, f 73, f 74, f 75, f 76, f 77, f 78, f 79, f 80, f 81, f 82, f 83, f 84, f 85, f 86, f 87, f 88, f 89, f 90, f 91, f 92, f 93, f 94, f 95, f 96, f 97, f 98, f 99, f 100, f 101, f 102, f 103, f 104, f 105, f 106, f 107, f 108, f 109, f 110, f 111, f 112, f 113, f 114, f 115, f 116, f 117, f 118, f 119, f 120, f 121, f 122, f 123, f 124, f 125, f 126, f 127, f 128, f 129, f 130, f 131, f 132, f 133, f 134, f 135, f 136, f 137, f 138, f 139, f 140, f 141, f 142, f 143, f 144, f 145, f 146, f 147, f 148, f 149, f 150, f 151, f 152, f 153, f 154, f 155, f 156, f 157, f 158, f 159, f 160, f 161, f 162, f 163, f 164, f 165, f 166, f 167, f 168, f 169, f 170, f 171, f 172, f 173] := by kernel_rfl
attribute [local go_sem] Tryz.zl75 Tryz.zs75 Tryz.zl52 Tryz.zs52 bne_self_eq_false
attribute [local go_sem ↓] execOp_make
set_option maxRecDepth 40000 in
set_option maxHeartbeats 20000000 in
theorem capacity_walk (w : World) (a : Option Addr) (len cap : Nat) (g : Nat → GOp) (dt : Nat → List UInt8) (hS : ScriptAt w a len cap g dt) : Calls Tryz.prog 8 #[.slice a len cap] w fun e w' => e = .returned (.bool true) ∧ w.Extends w' := by
  have HS : Hid (ScriptAt w a len cap g dt) := hS
  have hS0 := hS
  clear hS
  go_enter Tryz.func8, Tryz.ntmps8
  go_wp2_with fail
  refine (small_any w a len cap g dt hS0).mono ?_
  rintro e w1 ⟨⟨r, rfl, hr⟩, rfl⟩
  clear hS0
  dsimp only
  cases r
  · go_wp2_with fail
    go_ret
    exact ⟨rfl, ext_Ext (Ext.refl _)⟩
  obtain ⟨hlen, hsz⟩ := hr rfl
  have HSZ : Hid (∀ i, i < len → (g i).raw.len ≤ 65536) := hsz
  clear hr hsz
  go_wp2_with fail
  refine (new_any w1).mono ?_
  rintro e w2 ⟨rfl, e2⟩
  dsimp only
  have HE2 := hid_of e2
  clear e2
  go_wp2_with fail
  refine (mnew_any w2).mono ?_
  rintro e w3 ⟨rfl, e3⟩
  dsimp only
  have hsz2 : w2.heap.size = w1.heap.size + 1 := by rw [HE2.out, World.size_alloc]
  rw [HE2.out] at e3
  rw [hsz2]
  have HS3 : Hid (ScriptAt w3 a len cap g dt) := by
    show ScriptAt _ _ _ _ _ _
    rw [e3]
    exact (HS.out.mono (extends_alloc (ext_Ext (Ext.refl _)) _)).mono (extends_alloc (ext_Ext (Ext.refl _)) _)
  have HE3 := hid_of e3
  clear e3 hsz2 HE2
  go_wp2_with fail
  refine (sends_any w3 a len cap g dt HS3.out hlen).mono ?_
  rintro e W1 ⟨A, N, Cp, L, rfl, hat⟩
  dsimp only
  rw [HE3.out] at hat
  obtain ⟨hbeg, hjm⟩ := beg3_of HS.out hlen HSZ.out hat
  obtain ⟨bs, ebs⟩ : ∃ bs, bs = w1.heap.size := ⟨_, rfl⟩
  rw [← ebs] at hbeg hjm ⊢
  obtain ⟨bm, ebm⟩ : ∃ bm, bm = bs + 1 := ⟨_, rfl⟩
  rw [← ebm] at hjm ⊢
  obtain ⟨Ob, hOb⟩ : ∃ Ob, Ob = OL bs (.a 0 7) := ⟨_, rfl⟩
  rw [← hOb] at hbeg hjm
  have HBEG := hid_of hbeg
  have HJ0 : Hid (∃ s m O g, JM Ob W1 bs bm (1000 + 10 * ((0 : Nat) : Int)) s m O g W1) := ⟨_, _, _, _, hjm⟩
  have hN : N ≤ 65536 := hbeg.nn
  clear hat hbeg ebs hOb HS3 HE3 HSZ hjm ebm
  go_upto_region 6 with fail
  refine wp_loop_f 174 (l8I Ob W1 bs bm A N Cp) (fun f _ => N - (intOf (f 6)).toNat) rfl ⟨rfl, rfl, rfl, 0, by omega, rfl, HJ0⟩ ?_
  clear HJ0
  intro F V hrel
  obtain ⟨f3, f4, f5, i, hi, f6, HJ⟩ := hrel
  have H6 := hid_of f6
  rw [zframe174, f3, f4, f5, f6]
  clear f3 f4 f5 f6
  obtain ⟨s, m, O, g0, hJM⟩ := HJ.out
  have HJM := hid_of hJM
  clear HJ
  by_cases hin : i < N
  rotate_left 1
  · have hin' : ¬ (i : Int) < (N : Int) := by omega
    have HX := hid_of (kp_ext hJM.ls.kp HBEG.out.ex HBEG.out.old)
    clear hJM
    go_wp2_with fail
    go_ret
    exact ⟨rfl, HX.out⟩
  have hin' : (i : Int) < (N : Int) := by omega
  have i0 : (0 : Int) ≤ (i : Int) := by omega
  have i2 : ((i : Int)).toNat = i := by omega
  obtain ⟨x, raw, br, CR, rfl, hbr, hobr, hcl, hnr, hrl, hdx⟩ := HBEG.out.at hin
  have hbrV := (hJM.ls.blk hbr hobr).1
  have HBR : Hid (blk W1 br = some CR ∧ Ob br = .no) := ⟨hbr, hobr⟩
  have HDX := hid_of hdx
  have HRL := hid_of hrl
  have hdec := dec_both 19 (.inr rfl) V x raw ((hdx.sub HJM.out.ls.sub).sub (Sub.core _ _))
  obtain ⟨xa, xn, xc⟩ := x
  dsimp only at hnr hdec
  have hil : i < CR.length := by omega
  clear hbr hobr hdx hrl hJM hcl
  go_wp2_with fail
  refine hdec.mono ?_
  rintro e V2 ⟨k, ba, bn, bc, qa, qn, qc, p, sa, sn, sc, rfl, hRq, hx2⟩
  dsimp only
  obtain ⟨dc, hdc⟩ : ∃ dc, dc = (decF raw).1 := ⟨_, rfl⟩
  rw [← hdc]
  have HDC := hid_of hdc
  have HKQ := hid_of hRq.1
  have HRQ0 := hid_of hRq
  obtain ⟨RQ, hRQ⟩ : ∃ RQ, RQ = reqE k ba bn bc qa qn qc p sa sn sc := ⟨_, rfl⟩
  have q0 : nth RQ 0 = some (.int .i64 k) := by rw [hRQ]; rfl
  have q1 : nth RQ 1 = some (.slice ba bn bc) := by rw [hRQ]; rfl
  have q2 : nth RQ 2 = some (.slice qa qn qc) := by rw [hRQ]; rfl
  have ql0 : 0 < RQ.length := by rw [hRQ]; show 0 < 5; omega
  have ql1 : 1 < RQ.length := by rw [hRQ]; show 1 < 5; omega
  have ql2 : 2 < RQ.length := by rw [hRQ]; show 2 < 5; omega
  clear hdec hRq hdc
  go_upto_region 9 with fail
  refine wp_world (fun V' => V2.Extends V' ∧ blk V' V2.heap.size = some (reqE k ba bn bc qa qn qc p sa sn sc)) ⟨extends_alloc (ext_Ext (Ext.refl _)) _, by rw [blk_alloc, if_pos rfl]; try exact congrArg some (Request.all_set _ _)⟩ ?_
  rintro V5 ⟨hx3, hb7⟩
  obtain ⟨b7, e7⟩ : ∃ b7, b7 = V2.heap.size := ⟨_, rfl⟩
  rw [← e7, ← hRQ] at hb7
  rw [← e7]
  have HJ5 := hid_of (HJM.out.grow (hx2.trans hx3))
  have HRQ : Hid (RqC (core (lab O V.heap.size .no) V5) k ba bn bc qa qn p sa sn (decF raw).2) := reqOk_c (HRQ0.out.grow hx3) (fun b hb => lab_ge hb)
  clear hx2 hx3 e7 hRQ hbrV HRQ0
  obtain ⟨WW, hWW⟩ : ∃ WW : World → Prop, WW = fun V' => ∃ O', JM Ob W1 bs bm (1000 + 10 * (i : Int)) s m O' g0 V' ∧ RqC (core O' V') k ba bn bc qa qn p sa sn (decF raw).2 ∧ blk V' b7 = some RQ := ⟨_, rfl⟩
  have HWW : Hid (∀ V', WW V' → ∃ O', JM Ob W1 bs bm (1000 + 10 * (i : Int)) s m O' g0 V' ∧ RqC (core O' V') k ba bn bc qa qn p sa sn (decF raw).2 ∧ blk V' b7 = some RQ) := fun V' h => by rw [hWW] at h; exact h
  have HGW : Hid (∀ {V' V'' : World}, WW V' → V'.Extends V'' → WW V'') := fun {V' V''} h hx => by
    rw [hWW] at h ⊢
    obtain ⟨O', h1, h2, h3⟩ := h
    exact ⟨_, h1.grow hx, rqC_sub h2 (core_grow hx), (hx.blk (blk_lt h3)).trans h3⟩
  have HW5 : Hid (WW V5) := by show WW V5; rw [hWW]; exact ⟨_, HJ5.out, HRQ.out, hb7⟩
  clear hWW HJ5 HRQ
  have hcd9 : Cd dc := by rw [HDC.out]; exact decF_cd raw
  obtain ⟨fb0, efb⟩ : ∃ fb0, fb0 = (dc == 16) := ⟨_, rfl⟩
  have efb' : (dc == 16) = fb0 := efb.symm
  have HFB := hid_of efb
  clear efb
  go_upto_region 10 with fail
  try rw [efb']
  clear efb'
  obtain ⟨I1, hI1⟩ : ∃ I : (Nat → Value) → World → Prop, I = (fun f V' => c8C bs bm b7 (some ⟨br, 0, none⟩) N Cp i dc f ∧ f 9 = .bool fb0 ∧ V' = V5 ∧ ∃ l1, f 48 = .bool l1 ∧ Hid (l1 = true ↔ dc = 0 ∧ k = 1)) := ⟨_, rfl⟩
  have HI1 := hid_of hI1
  clear hI1
  refine wp_cut_f 174 I1 ?_ ?_
  · by_cases hd0 : dc = 0
    rotate_left 1
    · have hdb : (dc == 0) = false := by simp [hd0]
      go_wp2_with fail
      refine ⟨rfl, rfl, ?_⟩
      rw [HI1.out]
      refine ⟨⟨rfl, rfl, rfl, rfl, rfl, rfl⟩, rfl, rfl, false, rfl, ?_⟩
      exact ⟨(fun e => by cases e), fun e => absurd e.1 hd0⟩
    · have hdb : (dc == 0) = true := by simp [hd0]
      by_cases hk1 : k = 1
      · have hkb : (k == 1) = true := by simp [hk1]
        go_wp2_with fail
        refine ⟨rfl, rfl, ?_⟩
        rw [HI1.out]
        refine ⟨⟨rfl, rfl, rfl, rfl, rfl, rfl⟩, rfl, rfl, true, rfl, ?_⟩
        exact ⟨fun _ => ⟨hd0, hk1⟩, fun _ => rfl⟩
      · have hkb : (k == 1) = false := by simp [hk1]
        go_wp2_with fail
        refine ⟨rfl, rfl, ?_⟩
        rw [HI1.out]
        refine ⟨⟨rfl, rfl, rfl, rfl, rfl, rfl⟩, rfl, rfl, false, rfl, ?_⟩
        exact ⟨(fun e => by cases e), fun e => absurd e.2 hk1⟩
  intro f V' hI
  rw [HI1.out] at hI
  obtain ⟨⟨f3, f4, f5, f6, f7, f8⟩, f9, eV, l1, f48, HL1⟩ := hI
  rw [zframe174, f3, f4, f5, f6, f7, f8, f9, f48]
  clear f3 f4 f5 f6 f7 f8 f9 f48
  rw [eV]
  clear eV
  go_upto_if 48 with fail
  obtain ⟨I2, hI2⟩ : ∃ I : (Nat → Value) → World → Prop, I = (fun f V' => c8C bs bm b7 (some ⟨br, 0, none⟩) N Cp i dc f ∧ WW V' ∧ ∃ fb, f 9 = .bool fb ∧ Hid ((dc = 0 → k ≠ 1 → fb = false) ∧ ((dc ≠ 0 ∨ k = 1) → zFU s raw fb))) := ⟨_, rfl⟩
  have HI2 := hid_of hI2
  clear hI2
  refine wp_cut_f 174 I2 ?_ ?_
  · cases l1 with
    | false =>
      go_wp2_with fail
      refine ⟨rfl, rfl, ?_⟩
      rw [HI2.out]
      refine ⟨⟨rfl, rfl, rfl, rfl, rfl, rfl⟩, HW5.out, fb0, rfl, ?_⟩
      refine ⟨fun e _ => by rw [HFB.out, e]; rfl, fun e q s' h _ => ?_⟩
      have hd0 : dc ≠ 0 := by
        rcases e with e | e
        · exact e
        · intro e0; have := HL1.out.2 ⟨e0, e⟩; cases this
      rw [cap_dec h (by rw [← HDC.out]; exact hd0), ← HDC.out, HFB.out]; simp
    | true =>
      have hd0 := (HL1.out.1 rfl).1
      have hk1 := (HL1.out.1 rfl).2
      have hbn0 := (HWW.out _ HW5.out)
      obtain ⟨O5, hJ5, hRq5, hb75⟩ := hbn0
      have HK1 : Hid ((decF raw).1 = 0 ∧ (decF raw).2.kind = 1) := ⟨by rw [← HDC.out]; exact hd0, by rw [← HKQ.out]; exact hk1⟩
      have HFB0 : Hid (fb0 = false) := by show fb0 = false; rw [HFB.out, hd0]; rfl
      have hdsm := decF_small HRL.out
      have hBL := hRq5.2.1
      have hbn : bn ≤ 65536 := by
        have h9 : (decF raw).2.blob.length = bn := hBL.1
        have := hdsm.1
        omega
      have hbd := bdec_any V5 ba bn bc hbn hRq5.2.2.1 hRq5.2.2.2.1 (decF raw).2.blob (hBL.sub (Sub.core _ _))
      obtain ⟨pc, hpc⟩ : ∃ pc, pc = (decP (decF raw).2.blob).1 := ⟨_, rfl⟩
      obtain ⟨p0, hp0⟩ : ∃ p0, p0 = (decP (decF raw).2.blob).2 := ⟨_, rfl⟩
      have HPC := hid_of hpc
      have HP0 := hid_of hp0
      clear hdsm hpc hp0 hd0 hk1 hJ5 hRq5 hBL HL1
      go_wp2_with fail
      refine hbd.mono ?_
      rintro e V6 ⟨x, rfl, O6, hBl, hPg⟩
      dsimp only
      rw [← HPC.out]
      have xl := GProgram.length_enc x
      have xo := GProgram.ok_enc x
      have xs' := GProgram.all_set GProgram.zero x
      have HBLK := hid_of hBl
      have HPG : Hid (pc = 0 → PgM V5 O6 V6 x p0) := fun e => by rw [HP0.out]; exact hPg (by rw [← HPC.out]; exact e)
      clear hbd hBl hPg
      go_upto_region 12 with fail
      refine wp_world (fun V => V6.Extends V ∧ blk V V6.heap.size = some (GProgram.enc x) ∧ free V V6.heap.size = true) ⟨?_, ?_, ?_⟩ ?_
      · exact extends_alloc (ext_Ext (Ext.refl _)) _
      · rw [blk_alloc, if_pos rfl]
      · rw [free_alloc, if_pos rfl]
      rintro V7 ⟨hx7, hb10, hf10⟩
      obtain ⟨b10, e10⟩ : ∃ b10, b10 = V6.heap.size := ⟨_, rfl⟩
      rw [← e10] at hb10 hf10 ⊢
      have HX57 : Hid (V5.Extends V7) := HBLK.out.ext.trans hx7
      have h510 : V5.heap.size ≤ b10 := by rw [e10]; exact HBLK.out.ext.size
      by_cases hpc0 : pc = 0
      rotate_left 1
      · have hpb : (pc == 0) = false := by simp [hpc0]
        clear hb10 hf10 hx7 e10 xl xo xs' HPG HBLK
        go_wp2_with fail
        refine ⟨rfl, rfl, ?_⟩
        rw [HI2.out]
        refine ⟨⟨rfl, rfl, rfl, rfl, rfl, rfl⟩, HGW.out HW5.out HX57.out, fb0, rfl, ?_⟩
        refine ⟨fun _ _ => HFB0.out, fun _ q s' h _ => ?_⟩
        have h9 := (cap_load h HK1.out.1 HK1.out.2).1 (by rw [← HPC.out]; exact hpc0)
        rw [HFB0.out]
        exact ⟨fun e => absurd e h9, fun e => by cases e⟩
      have hpb : (pc == 0) = true := by simp [hpc0]
      have hPA : PgA V5.heap.size (ldO (fun _ => .a 9 8) O6 V5.heap.size b10) V7 b10 (GProgram.enc x) p0 := pgA_of HBLK.out (HPG.out hpc0) hx7 (Nat.le_of_eq e10.symm) hb10 hf10
      have hdk : DecOk p0 := by rw [HP0.out]; exact decP_ok (by rw [← HPC.out]; exact hpc0)
      obtain ⟨O7, hO7⟩ : ∃ O7, O7 = ldO (fun _ => .a 9 8) O6 V5.heap.size b10 := ⟨_, rfl⟩
      have HO7 : Hid (∀ k, k < V5.heap.size → O7 k = .a 9 8) := fun k hk => by rw [hO7]; unfold ldO; rw [if_pos hk]
      rw [← hO7] at hPA
      have HPA := hid_of hPA
      have HDK := hid_of hdk
      have hac := acceptable_any V7 b10 p0 hPA.progC ⟨Nat.le_trans hdk.rules.1 (by decide), Nat.le_trans hdk.preds.1 (by decide)⟩ (fun r hr => (hdk.rules.2 r hr).lens)
      have HPC0 : Hid ((decP (decF raw).2.blob).1 = 0) := HPC.out.symm.trans hpc0
      clear hb10 hf10 hx7 e10 xl xo xs' HPG HBLK hPA hdk hO7 HPC
      subst hpc0
      go_wp2_with fail
      refine hac.mono ?_
      rintro e V8 ⟨c, rfl, hAc, hx8⟩
      dsimp only
      rw [HP0.out] at hAc
      have HAC := hid_of hAc
      have HX58 : Hid (V5.Extends V8) := HX57.out.trans hx8
      have HX78 := hid_of hx8
      clear hac hAc hx8
      by_cases hc0 : c = 0
      rotate_left 1
      · have hcb : (c == 0) = false := by simp [hc0]
        go_wp2_with fail
        refine ⟨rfl, rfl, ?_⟩
        rw [HI2.out]
        refine ⟨⟨rfl, rfl, rfl, rfl, rfl, rfl⟩, HGW.out HW5.out HX58.out, fb0, rfl, ?_⟩
        refine ⟨fun _ _ => HFB0.out, fun _ q s' h _ => ?_⟩
        have h9 := ((cap_load h HK1.out.1 HK1.out.2).2 HPC0.out c HAC.out).1 hc0
        rw [HFB0.out]
        exact ⟨fun e => absurd e h9, fun e => by cases e⟩
      have hPA8 := HPA.out.fr (L := fun _ => False) (Fr.grow HX78.out) (fun e => e) (fun e => e) (fun e => e)
      obtain ⟨O8, hO8⟩ : ∃ O8, O8 = lab O7 V7.heap.size .no := ⟨_, rfl⟩
      rw [← hO8] at hPA8
      have HO8 : Hid (∀ k, k < V5.heap.size → O8 k = .a 9 8) := fun k hk => by rw [hO8, lab_lt (Nat.lt_of_lt_of_le hk HX57.out.size)]; exact HO7.out k hk
      have hve := verify_any hPA8 (fun r hr => (HDK.out.rules.2 r hr).lens) (fun y hy => (HDK.out.preds.2 y hy).1)
      clear hPA8 hO8 HPA HO7 HX78 HX57
      subst hc0
      go_wp2_with fail
      refine hve.mono ?_
      rintro e V9 ⟨vc, p', O9, rfl, hVR, hF9, hPA9⟩
      dsimp only
      have hvc : vc = 0 := by
        have h9 := ac_ver (by rw [← HP0.out]; exact HDK.out) HAC.out (by rw [← HP0.out]; exact hVR)
        exact h9.symm
      obtain ⟨Ce, hPA⟩ := hPA9 hvc
      have hx59 : V5.Extends V9 := hF9.extends HX58.out (fun k hk => by rw [HO8.out k hk]; rintro (e | e) <;> cases e)
      rw [hvc] at hVR
      have HCL : Hid (∀ (s' : Sv) q, svR s raw q s' → ∀ F1 T1, PfTo p' (constF p'.pool (List.replicate p'.preds.length [])) 0 (List.replicate p'.preds.length []) [] F1 T1 → (q.code = 16 ↔ overN F1 = true)) := fun s' q h => ((cap_load h HK1.out.1 HK1.out.2).2 HPC0.out 0 HAC.out).2 rfl p' (by rw [← HP0.out]; exact hVR)
      have hpv : PgV p' := verR_pgV HDK.out hVR
      obtain ⟨n, en⟩ : ∃ n, n = p'.preds.length := ⟨_, rfl⟩
      obtain ⟨pa1, pc1, cp1, -⟩ := hPA.pk.preds
      rw [← en] at cp1
      have hCl : 1 < Ce.length := by rw [hPA.pk.len]; omega
      have hb10 := hPA.cell
      have hn64 : n ≤ 64 := by rw [en]; exact hpv.g.pok.nD
      have hmk : ∀ w, (makeOp 52 (.int .i64 (n : Int)) (.int .i64 (n : Int))).run Tryz.prog w = .ok (.value (.slice (some ⟨w.heap.size, 0, none⟩) n n)) (w.alloc (.cells (List.replicate n (Value.slice none 0 0)).toArray 75)) := fun w => make52 w n (by omega)
      have hxa : V9.Extends (V9.alloc (.cells (List.replicate n (Value.slice none 0 0)).toArray 75)) := extends_alloc (ext_Ext (Ext.refl _)) _
      have hE : PfE (V9.alloc (.cells (List.replicate n (Value.slice none 0 0)).toArray 75)) b10 0 p' (some ⟨V9.heap.size, 0, none⟩) n (List.replicate n []) := ⟨(progC_ext hPA.progC hxa).o, facts_made V9 n, by rw [List.length_replicate]; exact en, by rw [List.length_replicate]; exact hn64, Nat.le_trans hpv.g.pok.nR (by decide), by have := hpv.g.pok.st.2; omega, fun r hr => by rw [List.length_replicate, en]; exact hpv.g.fit hr, Nat.le_trans hpv.g.pok.nP (by decide), fun L hL => by rw [List.eq_of_mem_replicate hL]; exact Nat.zero_le _, (fun L hL r hr => by rw [List.eq_of_mem_replicate hL] at hr; cases hr), Nat.le_trans (const_empty _ _) hpv.g.pok.nP⟩
      have hpf := perfectN_any _ b10 0 p' (some ⟨V9.heap.size, 0, none⟩) n n (List.replicate n []) hE
      obtain ⟨MC, hMC⟩ : ∃ MC, MC = (List.replicate n (Value.slice none 0 0)).toArray := ⟨_, rfl⟩
      rw [← hMC] at hpf
      simp only [← hMC] at hmk
      have HX59 := hid_of hx59
      have HN := hid_of en
      clear hve hVR hF9 hPA9 hPA hx59 hE hMC hpv en hxa HX58 HO8 hvc
      go_wp2_with fail
      refine hpf.mono ?_
      rintro e V10 ⟨bo, ta, tn, tc, F1, T1, rfl, hPf, hFl, hx10, hFA, -, -, hLL, -⟩
      dsimp only
      rw [List.length_replicate] at hFl hFA ⊢
      have HX510 : Hid (V5.Extends V10) := HX59.out.trans ((extends_alloc (ext_Ext (Ext.refl _)) _).trans hx10)
      have HPF : Hid (PfTo p' (constF p'.pool (List.replicate p'.preds.length [])) 0 (List.replicate p'.preds.length []) [] F1 T1) := by
        show PfTo _ _ _ _ _ _ _
        rw [← HN.out]; exact hPf
      have hov := overN_any V10 (some ⟨bo, 0, none⟩) n n (by omega) F1 hFA
      obtain ⟨ov, eov⟩ : ∃ ov, ov = overN F1 := ⟨_, rfl⟩
      rw [← eov] at hov
      have HOV := hid_of eov
      clear hpf hPf hFl hx10 hFA hLL eov hmk hb10
      go_wp2_with fail
      refine hov.mono ?_
      rintro e V11 ⟨rfl, e11⟩
      subst e11
      dsimp only
      clear hov
      go_wp2_with fail
      refine ⟨rfl, rfl, ?_⟩
      rw [HI2.out]
      refine ⟨⟨rfl, rfl, rfl, rfl, rfl, rfl⟩, HGW.out HW5.out HX510.out, ov, rfl, ?_⟩
      refine ⟨fun _ e => absurd (HKQ.out.trans HK1.out.2) e, fun _ q s' h _ => ?_⟩
      rw [HOV.out]
      exact HCL.out s' q h F1 T1 HPF.out
  intro f V' hI
  rw [HI2.out] at hI
  obtain ⟨⟨f3, f4, f5, f6, f7, f8⟩, hW, fb, f9, HF1⟩ := hI
  rw [zframe174, f3, f4, f5, f6, f7, f8, f9]
  clear f3 f4 f5 f6 f7 f8 f9
  have HW := hid_of hW
  clear hW hb7 HFB HL1
  go_upto_region 16 with fail
  obtain ⟨I3, hI3⟩ : ∃ I : (Nat → Value) → World → Prop, I = (fun f V' => c8C bs bm b7 (some ⟨br, 0, none⟩) N Cp i dc f ∧ WW V' ∧ ∃ fb c, f 9 = .bool fb ∧ f 97 = .bool c ∧ Hid ((c = false → zFU s raw fb) ∧ (c = true → dc = 0 ∧ (k = 2 ∨ k = 3 ∨ k = 4) ∧ m.ld = true ∧ ckL m.p (decF raw).2.items 0 = none ∧ fb = false))) := ⟨_, rfl⟩
  have HI3 := hid_of hI3
  clear hI3
  refine wp_cut_f 174 I3 ?_ ?_
  · obtain ⟨O1, hJ1, hRq1, hb7⟩ := HWW.out _ HW.out
    obtain ⟨Ce, fa, fc, hMo⟩ := hJ1.mo
    have hbm := hMo.cell
    have hb7' : blk V'.drew b7 = some RQ := hb7
    have hbm' : blk V'.drew bm = some Ce := hbm
    have HWD : Hid (WW V'.drew) := HGW.out HW.out (extends_drewN (ext_Ext (Ext.refl _)) 1)
    have HMO := hid_of hMo
    have HJ1 := hid_of hJ1
    have HRQ1 := hid_of hRq1
    have kc0 : 0 < Ce.length := by rw [hMo.len]; omega
    have cld := hMo.ld
    clear hMo hJ1 hRq1
    by_cases hd0 : dc = 0
    rotate_left 1
    · have hdb : (dc == 0) = false := by simp [hd0]
      repeat go_step
      refine wp_region_held_drew (S := fun W' => blk W' b7 = some RQ ∧ blk W' bm = some Ce) (by kernel_rfl) ⟨hb7, hbm⟩ (fun hHeld => ?_)
      refine wpAnyH_take (i := 0) (oi := ⟨_, _, _, _, _, _⟩) (v := ?_) rfl (by kernel_rfl) (by kernel_rfl) (by kernel_rfl) (fun _ _ _ h => h) (Or.inl ⟨by rfl, ?_⟩) (by assumption) ?_
      rotate_left 1
      · intro W' hSw
        obtain ⟨hS1, hS2⟩ := hSw
        go_simp
        try with_reducible rfl
      try simp only [Act.put, List.setIfInBounds_toArray, List.set_cons_zero, List.set_cons_succ]
      refine wpAnyH_take (i := 1) (oi := ⟨_, _, _, _, _, _⟩) (v := ?_) rfl (by kernel_rfl) (by kernel_rfl) (by kernel_rfl) (fun _ _ _ h => h) (Or.inl ⟨by rfl, ?_⟩) (by assumption) ?_
      rotate_left 1
      · intro W' hSw
        obtain ⟨hS1, hS2⟩ := hSw
        go_simp
        try with_reducible rfl
      try simp only [Act.put, List.setIfInBounds_toArray, List.set_cons_zero, List.set_cons_succ]
      refine wpAnyH_take (i := 2) (oi := ⟨_, _, _, _, _, _⟩) (v := ?_) rfl (by kernel_rfl) (by kernel_rfl) (by kernel_rfl) (fun _ _ _ h => h) (Or.inl ⟨by rfl, ?_⟩) (by assumption) ?_
      rotate_left 1
      · intro W' hSw
        obtain ⟨hS1, hS2⟩ := hSw
        go_simp
        try with_reducible rfl
      try simp only [Act.put, List.setIfInBounds_toArray, List.set_cons_zero, List.set_cons_succ]
      refine wpAnyH_take (i := 3) (oi := ⟨_, _, _, _, _, _⟩) (v := undef) rfl (by kernel_rfl) (by kernel_rfl) (by kernel_rfl) (fun _ _ _ h => h) (Or.inr ⟨by rfl, rfl⟩) (by assumption) ?_
      try simp only [Act.put, List.setIfInBounds_toArray, List.set_cons_zero, List.set_cons_succ]
      refine wpAnyH_take (i := 4) (oi := ⟨_, _, _, _, _, _⟩) (v := undef) rfl (by kernel_rfl) (by kernel_rfl) (by kernel_rfl) (fun _ _ _ h => h) (Or.inr ⟨by rfl, rfl⟩) (by assumption) ?_
      try simp only [Act.put, List.setIfInBounds_toArray, List.set_cons_zero, List.set_cons_succ]
      refine wpAnyH_take (i := 5) (oi := ⟨_, _, _, _, _, _⟩) (v := undef) rfl (by kernel_rfl) (by kernel_rfl) (by kernel_rfl) (fun _ _ _ h => h) (Or.inr ⟨by rfl, rfl⟩) (by assumption) ?_
      try simp only [Act.put, List.setIfInBounds_toArray, List.set_cons_zero, List.set_cons_succ]
      refine wpAnyH_take (i := 6) (oi := ⟨_, _, _, _, _, _⟩) (v := ?_) rfl (by kernel_rfl) (by kernel_rfl) (by kernel_rfl) (fun _ _ _ h => h) (Or.inl ⟨by rfl, ?_⟩) (by assumption) ?_
      rotate_left 1
      · intro W' hSw
        obtain ⟨hS1, hS2⟩ := hSw
        go_simp
        try with_reducible rfl
      try simp only [Act.put, List.setIfInBounds_toArray, List.set_cons_zero, List.set_cons_succ]
      refine wpAnyH_take (i := 7) (oi := ⟨_, _, _, _, _, _⟩) (v := ?_) rfl (by kernel_rfl) (by kernel_rfl) (by kernel_rfl) (fun _ _ _ h => h) (Or.inl ⟨by rfl, ?_⟩) (by assumption) ?_
      rotate_left 1
      · intro W' hSw
        obtain ⟨hS1, hS2⟩ := hSw
        go_simp
        try with_reducible rfl
      try simp only [Act.put, List.setIfInBounds_toArray, List.set_cons_zero, List.set_cons_succ]
      refine wpAnyH_take (i := 8) (oi := ⟨_, _, _, _, _, _⟩) (v := undef) rfl (by kernel_rfl) (by kernel_rfl) (by kernel_rfl) (fun _ _ _ h => h) (Or.inr ⟨by rfl, rfl⟩) (by assumption) ?_
      try simp only [Act.put, List.setIfInBounds_toArray, List.set_cons_zero, List.set_cons_succ]
      refine wpAnyH_take (i := 9) (oi := ⟨_, _, _, _, _, _⟩) (v := undef) rfl (by kernel_rfl) (by kernel_rfl) (by kernel_rfl) (fun _ _ _ h => h) (Or.inr ⟨by rfl, rfl⟩) (by assumption) ?_
      try simp only [Act.put, List.setIfInBounds_toArray, List.set_cons_zero, List.set_cons_succ]
      refine wpAnyH_take (i := 10) (oi := ⟨_, _, _, _, _, _⟩) (v := undef) rfl (by kernel_rfl) (by kernel_rfl) (by kernel_rfl) (fun _ _ _ h => h) (Or.inr ⟨by rfl, rfl⟩) (by assumption) ?_
      try simp only [Act.put, List.setIfInBounds_toArray, List.set_cons_zero, List.set_cons_succ]
      refine wpAnyH_take (i := 11) (oi := ⟨_, _, _, _, _, _⟩) (v := ?_) rfl (by kernel_rfl) (by kernel_rfl) (by kernel_rfl) (fun _ _ _ h => h) (Or.inl ⟨by rfl, ?_⟩) (by assumption) ?_
      rotate_left 1
      · intro W' hSw
        obtain ⟨hS1, hS2⟩ := hSw
        go_simp
        try with_reducible rfl
      try simp only [Act.put, List.setIfInBounds_toArray, List.set_cons_zero, List.set_cons_succ]
      refine wpAnyH_take (i := 12) (oi := ⟨_, _, _, _, _, _⟩) (v := ?_) rfl (by kernel_rfl) (by kernel_rfl) (by kernel_rfl) (fun _ _ _ h => h) (Or.inl ⟨by rfl, ?_⟩) (by assumption) ?_
      rotate_left 1
      · intro W' hSw
        obtain ⟨hS1, hS2⟩ := hSw
        go_simp
        try with_reducible rfl
      try simp only [Act.put, List.setIfInBounds_toArray, List.set_cons_zero, List.set_cons_succ]
      refine wpAnyH_take (i := 13) (oi := ⟨_, _, _, _, _, _⟩) (v := undef) rfl (by kernel_rfl) (by kernel_rfl) (by kernel_rfl) (fun _ _ _ h => h) (Or.inr ⟨by rfl, rfl⟩) (by assumption) ?_
      try simp only [Act.put, List.setIfInBounds_toArray, List.set_cons_zero, List.set_cons_succ]
      refine wpAnyH_take (i := 14) (oi := ⟨_, _, _, _, _, _⟩) (v := undef) rfl (by kernel_rfl) (by kernel_rfl) (by kernel_rfl) (fun _ _ _ h => h) (Or.inr ⟨by rfl, rfl⟩) (by assumption) ?_
      try simp only [Act.put, List.setIfInBounds_toArray, List.set_cons_zero, List.set_cons_succ]
      refine wpAnyH_take (i := 15) (oi := ⟨_, _, _, _, _, _⟩) (v := undef) rfl (by kernel_rfl) (by kernel_rfl) (by kernel_rfl) (fun _ _ _ h => h) (Or.inr ⟨by rfl, rfl⟩) (by assumption) ?_
      try simp only [Act.put, List.setIfInBounds_toArray, List.set_cons_zero, List.set_cons_succ]
      refine wpAnyH_take (i := 16) (oi := ⟨_, _, _, _, _, _⟩) (v := undef) rfl (by kernel_rfl) (by kernel_rfl) (by kernel_rfl) (fun _ _ _ h => h) (Or.inr ⟨by rfl, rfl⟩) (by assumption) ?_
      try simp only [Act.put, List.setIfInBounds_toArray, List.set_cons_zero, List.set_cons_succ]
      refine wpAnyH_take (i := 17) (oi := ⟨_, _, _, _, _, _⟩) (v := ?_) rfl (by kernel_rfl) (by kernel_rfl) (by kernel_rfl) (fun _ _ _ h => h) (Or.inl ⟨by rfl, ?_⟩) (by assumption) ?_
      rotate_left 1
      · intro W' hSw
        obtain ⟨hS1, hS2⟩ := hSw
        go_simp
        try with_reducible rfl
      try simp only [Act.put, List.setIfInBounds_toArray, List.set_cons_zero, List.set_cons_succ]
      refine wpAnyH_take (i := 18) (oi := ⟨_, _, _, _, _, _⟩) (v := ?_) rfl (by kernel_rfl) (by kernel_rfl) (by kernel_rfl) (fun _ _ _ h => h) (Or.inl ⟨by rfl, ?_⟩) (by assumption) ?_
      rotate_left 1
      · intro W' hSw
        obtain ⟨hS1, hS2⟩ := hSw
        go_simp
        try with_reducible rfl
      try simp only [Act.put, List.setIfInBounds_toArray, List.set_cons_zero, List.set_cons_succ]
      refine wpAnyH_take (i := 19) (oi := ⟨_, _, _, _, _, _⟩) (v := undef) rfl (by kernel_rfl) (by kernel_rfl) (by kernel_rfl) (fun _ _ _ h => h) (Or.inr ⟨by rfl, rfl⟩) (by assumption) ?_
      try simp only [Act.put, List.setIfInBounds_toArray, List.set_cons_zero, List.set_cons_succ]
      refine wpAnyH_take (i := 20) (oi := ⟨_, _, _, _, _, _⟩) (v := undef) rfl (by kernel_rfl) (by kernel_rfl) (by kernel_rfl) (fun _ _ _ h => h) (Or.inr ⟨by rfl, rfl⟩) (by assumption) ?_
      try simp only [Act.put, List.setIfInBounds_toArray, List.set_cons_zero, List.set_cons_succ]
      refine wpAnyH_take (i := 21) (oi := ⟨_, _, _, _, _, _⟩) (v := undef) rfl (by kernel_rfl) (by kernel_rfl) (by kernel_rfl) (fun _ _ _ h => h) (Or.inr ⟨by rfl, rfl⟩) (by assumption) ?_
      try simp only [Act.put, List.setIfInBounds_toArray, List.set_cons_zero, List.set_cons_succ]
      refine wpAnyH_take (i := 22) (oi := ⟨_, _, _, _, _, _⟩) (v := undef) rfl (by kernel_rfl) (by kernel_rfl) (by kernel_rfl) (fun _ _ _ h => h) (Or.inr ⟨by rfl, rfl⟩) (by assumption) ?_
      try simp only [Act.put, List.setIfInBounds_toArray, List.set_cons_zero, List.set_cons_succ]
      refine wpAnyH_take (i := 23) (oi := ⟨_, _, _, _, _, _⟩) (v := undef) rfl (by kernel_rfl) (by kernel_rfl) (by kernel_rfl) (fun _ _ _ h => h) (Or.inr ⟨by rfl, rfl⟩) (by assumption) ?_
      try simp only [Act.put, List.setIfInBounds_toArray, List.set_cons_zero, List.set_cons_succ]
      refine wpAnyH_take (i := 24) (oi := ⟨_, _, _, _, _, _⟩) (v := undef) rfl (by kernel_rfl) (by kernel_rfl) (by kernel_rfl) (fun _ _ _ h => h) (Or.inr ⟨by rfl, rfl⟩) (by assumption) ?_
      try simp only [Act.put, List.setIfInBounds_toArray, List.set_cons_zero, List.set_cons_succ]
      refine wpAnyH_take (i := 25) (oi := ⟨_, _, _, _, _, _⟩) (v := ?_) rfl (by kernel_rfl) (by kernel_rfl) (by kernel_rfl) (fun _ _ _ h => h) (Or.inl ⟨by rfl, ?_⟩) (by assumption) ?_
      rotate_left 1
      · intro W' hSw
        obtain ⟨hS1, hS2⟩ := hSw
        go_simp
        try with_reducible rfl
      try simp only [Act.put, List.setIfInBounds_toArray, List.set_cons_zero, List.set_cons_succ]
      refine wpAnyH_done (by kernel_rfl) ?_ _
      clear hHeld
      go_wp2_with fail
      refine ⟨rfl, rfl, ?_⟩
      rw [HI3.out]
      refine ⟨⟨rfl, rfl, rfl, rfl, rfl, rfl⟩, HWD.out, fb, false, rfl, rfl, ?_⟩
      exact ⟨fun _ => HF1.out.2 (.inl hd0), fun e => by cases e⟩
    have hdb : (dc == 0) = true := by simp [hd0]
    have HD0 : Hid ((decF raw).1 = 0) := by show _ = _; rw [← HDC.out]; exact hd0
    have HDD := hid_of hd0
    clear hd0
    by_cases hk1 : k = 1
    · have hkb : (k == 1) = true := by simp [hk1]
      have hkc : (k != 1) = false := by simp [hk1]
      repeat go_step
      refine wp_region_held_drew (S := fun W' => blk W' b7 = some RQ ∧ blk W' bm = some Ce) (by kernel_rfl) ⟨hb7, hbm⟩ (fun hHeld => ?_)
      refine wpAnyH_take (i := 0) (oi := ⟨_, _, _, _, _, _⟩) (v := ?_) rfl (by kernel_rfl) (by kernel_rfl) (by kernel_rfl) (fun _ _ _ h => h) (Or.inl ⟨by rfl, ?_⟩) (by assumption) ?_
      rotate_left 1
      · intro W' hSw
        obtain ⟨hS1, hS2⟩ := hSw
        go_simp
        try with_reducible rfl
      try simp only [Act.put, List.setIfInBounds_toArray, List.set_cons_zero, List.set_cons_succ]
      refine wpAnyH_take (i := 1) (oi := ⟨_, _, _, _, _, _⟩) (v := ?_) rfl (by kernel_rfl) (by kernel_rfl) (by kernel_rfl) (fun _ _ _ h => h) (Or.inl ⟨by rfl, ?_⟩) (by assumption) ?_
      rotate_left 1
      · intro W' hSw
        obtain ⟨hS1, hS2⟩ := hSw
        go_simp
        try with_reducible rfl
      try simp only [Act.put, List.setIfInBounds_toArray, List.set_cons_zero, List.set_cons_succ]
      refine wpAnyH_take (i := 2) (oi := ⟨_, _, _, _, _, _⟩) (v := ?_) rfl (by kernel_rfl) (by kernel_rfl) (by kernel_rfl) (fun _ _ _ h => h) (Or.inl ⟨by rfl, ?_⟩) (by assumption) ?_
      rotate_left 1
      · intro W' hSw
        obtain ⟨hS1, hS2⟩ := hSw
        go_simp
        try with_reducible rfl
      try simp only [Act.put, List.setIfInBounds_toArray, List.set_cons_zero, List.set_cons_succ]
      refine wpAnyH_take (i := 3) (oi := ⟨_, _, _, _, _, _⟩) (v := ?_) rfl (by kernel_rfl) (by kernel_rfl) (by kernel_rfl) (fun _ _ _ h => h) (Or.inl ⟨by rfl, ?_⟩) (by assumption) ?_
      rotate_left 1
      · intro W' hSw
        obtain ⟨hS1, hS2⟩ := hSw
        go_simp
        try with_reducible rfl
      try simp only [Act.put, List.setIfInBounds_toArray, List.set_cons_zero, List.set_cons_succ]
      refine wpAnyH_take (i := 4) (oi := ⟨_, _, _, _, _, _⟩) (v := ?_) rfl (by kernel_rfl) (by kernel_rfl) (by kernel_rfl) (fun _ _ _ h => h) (Or.inl ⟨by rfl, ?_⟩) (by assumption) ?_
      rotate_left 1
      · intro W' hSw
        obtain ⟨hS1, hS2⟩ := hSw
        go_simp
        try with_reducible rfl
      try simp only [Act.put, List.setIfInBounds_toArray, List.set_cons_zero, List.set_cons_succ]
      refine wpAnyH_take (i := 5) (oi := ⟨_, _, _, _, _, _⟩) (v := ?_) rfl (by kernel_rfl) (by kernel_rfl) (by kernel_rfl) (fun _ _ _ h => h) (Or.inl ⟨by rfl, ?_⟩) (by assumption) ?_
      rotate_left 1
      · intro W' hSw
        obtain ⟨hS1, hS2⟩ := hSw
        go_simp
        try with_reducible rfl
      try simp only [Act.put, List.setIfInBounds_toArray, List.set_cons_zero, List.set_cons_succ]
      refine wpAnyH_take (i := 6) (oi := ⟨_, _, _, _, _, _⟩) (v := ?_) rfl (by kernel_rfl) (by kernel_rfl) (by kernel_rfl) (fun _ _ _ h => h) (Or.inl ⟨by rfl, ?_⟩) (by assumption) ?_
      rotate_left 1
      · intro W' hSw
        obtain ⟨hS1, hS2⟩ := hSw
        go_simp
        try with_reducible rfl
      try simp only [Act.put, List.setIfInBounds_toArray, List.set_cons_zero, List.set_cons_succ]
      refine wpAnyH_take (i := 7) (oi := ⟨_, _, _, _, _, _⟩) (v := ?_) rfl (by kernel_rfl) (by kernel_rfl) (by kernel_rfl) (fun _ _ _ h => h) (Or.inl ⟨by rfl, ?_⟩) (by assumption) ?_
      rotate_left 1
      · intro W' hSw
        obtain ⟨hS1, hS2⟩ := hSw
        go_simp
        try with_reducible rfl
      try simp only [Act.put, List.setIfInBounds_toArray, List.set_cons_zero, List.set_cons_succ]
      refine wpAnyH_take (i := 8) (oi := ⟨_, _, _, _, _, _⟩) (v := undef) rfl (by kernel_rfl) (by kernel_rfl) (by kernel_rfl) (fun _ _ _ h => h) (Or.inr ⟨by rfl, rfl⟩) (by assumption) ?_
      try simp only [Act.put, List.setIfInBounds_toArray, List.set_cons_zero, List.set_cons_succ]
      refine wpAnyH_take (i := 9) (oi := ⟨_, _, _, _, _, _⟩) (v := undef) rfl (by kernel_rfl) (by kernel_rfl) (by kernel_rfl) (fun _ _ _ h => h) (Or.inr ⟨by rfl, rfl⟩) (by assumption) ?_
      try simp only [Act.put, List.setIfInBounds_toArray, List.set_cons_zero, List.set_cons_succ]
      refine wpAnyH_take (i := 10) (oi := ⟨_, _, _, _, _, _⟩) (v := undef) rfl (by kernel_rfl) (by kernel_rfl) (by kernel_rfl) (fun _ _ _ h => h) (Or.inr ⟨by rfl, rfl⟩) (by assumption) ?_
      try simp only [Act.put, List.setIfInBounds_toArray, List.set_cons_zero, List.set_cons_succ]
      refine wpAnyH_take (i := 11) (oi := ⟨_, _, _, _, _, _⟩) (v := ?_) rfl (by kernel_rfl) (by kernel_rfl) (by kernel_rfl) (fun _ _ _ h => h) (Or.inl ⟨by rfl, ?_⟩) (by assumption) ?_
      rotate_left 1
      · intro W' hSw
        obtain ⟨hS1, hS2⟩ := hSw
        go_simp
        try with_reducible rfl
      try simp only [Act.put, List.setIfInBounds_toArray, List.set_cons_zero, List.set_cons_succ]
      refine wpAnyH_take (i := 12) (oi := ⟨_, _, _, _, _, _⟩) (v := ?_) rfl (by kernel_rfl) (by kernel_rfl) (by kernel_rfl) (fun _ _ _ h => h) (Or.inl ⟨by rfl, ?_⟩) (by assumption) ?_
      rotate_left 1
      · intro W' hSw
        obtain ⟨hS1, hS2⟩ := hSw
        go_simp
        try with_reducible rfl
      try simp only [Act.put, List.setIfInBounds_toArray, List.set_cons_zero, List.set_cons_succ]
      refine wpAnyH_take (i := 13) (oi := ⟨_, _, _, _, _, _⟩) (v := undef) rfl (by kernel_rfl) (by kernel_rfl) (by kernel_rfl) (fun _ _ _ h => h) (Or.inr ⟨by rfl, rfl⟩) (by assumption) ?_
      try simp only [Act.put, List.setIfInBounds_toArray, List.set_cons_zero, List.set_cons_succ]
      refine wpAnyH_take (i := 14) (oi := ⟨_, _, _, _, _, _⟩) (v := undef) rfl (by kernel_rfl) (by kernel_rfl) (by kernel_rfl) (fun _ _ _ h => h) (Or.inr ⟨by rfl, rfl⟩) (by assumption) ?_
      try simp only [Act.put, List.setIfInBounds_toArray, List.set_cons_zero, List.set_cons_succ]
      refine wpAnyH_take (i := 15) (oi := ⟨_, _, _, _, _, _⟩) (v := undef) rfl (by kernel_rfl) (by kernel_rfl) (by kernel_rfl) (fun _ _ _ h => h) (Or.inr ⟨by rfl, rfl⟩) (by assumption) ?_
      try simp only [Act.put, List.setIfInBounds_toArray, List.set_cons_zero, List.set_cons_succ]
      refine wpAnyH_take (i := 16) (oi := ⟨_, _, _, _, _, _⟩) (v := undef) rfl (by kernel_rfl) (by kernel_rfl) (by kernel_rfl) (fun _ _ _ h => h) (Or.inr ⟨by rfl, rfl⟩) (by assumption) ?_
      try simp only [Act.put, List.setIfInBounds_toArray, List.set_cons_zero, List.set_cons_succ]
      refine wpAnyH_take (i := 17) (oi := ⟨_, _, _, _, _, _⟩) (v := ?_) rfl (by kernel_rfl) (by kernel_rfl) (by kernel_rfl) (fun _ _ _ h => h) (Or.inl ⟨by rfl, ?_⟩) (by assumption) ?_
      rotate_left 1
      · intro W' hSw
        obtain ⟨hS1, hS2⟩ := hSw
        go_simp
        try with_reducible rfl
      try simp only [Act.put, List.setIfInBounds_toArray, List.set_cons_zero, List.set_cons_succ]
      refine wpAnyH_take (i := 18) (oi := ⟨_, _, _, _, _, _⟩) (v := ?_) rfl (by kernel_rfl) (by kernel_rfl) (by kernel_rfl) (fun _ _ _ h => h) (Or.inl ⟨by rfl, ?_⟩) (by assumption) ?_
      rotate_left 1
      · intro W' hSw
        obtain ⟨hS1, hS2⟩ := hSw
        go_simp
        try with_reducible rfl
      try simp only [Act.put, List.setIfInBounds_toArray, List.set_cons_zero, List.set_cons_succ]
      refine wpAnyH_take (i := 19) (oi := ⟨_, _, _, _, _, _⟩) (v := undef) rfl (by kernel_rfl) (by kernel_rfl) (by kernel_rfl) (fun _ _ _ h => h) (Or.inr ⟨by rfl, rfl⟩) (by assumption) ?_
      try simp only [Act.put, List.setIfInBounds_toArray, List.set_cons_zero, List.set_cons_succ]
      refine wpAnyH_take (i := 20) (oi := ⟨_, _, _, _, _, _⟩) (v := undef) rfl (by kernel_rfl) (by kernel_rfl) (by kernel_rfl) (fun _ _ _ h => h) (Or.inr ⟨by rfl, rfl⟩) (by assumption) ?_
      try simp only [Act.put, List.setIfInBounds_toArray, List.set_cons_zero, List.set_cons_succ]
      refine wpAnyH_take (i := 21) (oi := ⟨_, _, _, _, _, _⟩) (v := undef) rfl (by kernel_rfl) (by kernel_rfl) (by kernel_rfl) (fun _ _ _ h => h) (Or.inr ⟨by rfl, rfl⟩) (by assumption) ?_
      try simp only [Act.put, List.setIfInBounds_toArray, List.set_cons_zero, List.set_cons_succ]
      refine wpAnyH_take (i := 22) (oi := ⟨_, _, _, _, _, _⟩) (v := undef) rfl (by kernel_rfl) (by kernel_rfl) (by kernel_rfl) (fun _ _ _ h => h) (Or.inr ⟨by rfl, rfl⟩) (by assumption) ?_
      try simp only [Act.put, List.setIfInBounds_toArray, List.set_cons_zero, List.set_cons_succ]
      refine wpAnyH_take (i := 23) (oi := ⟨_, _, _, _, _, _⟩) (v := undef) rfl (by kernel_rfl) (by kernel_rfl) (by kernel_rfl) (fun _ _ _ h => h) (Or.inr ⟨by rfl, rfl⟩) (by assumption) ?_
      try simp only [Act.put, List.setIfInBounds_toArray, List.set_cons_zero, List.set_cons_succ]
      refine wpAnyH_take (i := 24) (oi := ⟨_, _, _, _, _, _⟩) (v := undef) rfl (by kernel_rfl) (by kernel_rfl) (by kernel_rfl) (fun _ _ _ h => h) (Or.inr ⟨by rfl, rfl⟩) (by assumption) ?_
      try simp only [Act.put, List.setIfInBounds_toArray, List.set_cons_zero, List.set_cons_succ]
      refine wpAnyH_take (i := 25) (oi := ⟨_, _, _, _, _, _⟩) (v := ?_) rfl (by kernel_rfl) (by kernel_rfl) (by kernel_rfl) (fun _ _ _ h => h) (Or.inl ⟨by rfl, ?_⟩) (by assumption) ?_
      rotate_left 1
      · intro W' hSw
        obtain ⟨hS1, hS2⟩ := hSw
        go_simp
        try with_reducible rfl
      try simp only [Act.put, List.setIfInBounds_toArray, List.set_cons_zero, List.set_cons_succ]
      refine wpAnyH_done (by kernel_rfl) ?_ _
      clear hHeld
      go_wp2_with fail
      refine ⟨rfl, rfl, ?_⟩
      rw [HI3.out]
      refine ⟨⟨rfl, rfl, rfl, rfl, rfl, rfl⟩, HWD.out, fb, false, rfl, rfl, ?_⟩
      exact ⟨fun _ => HF1.out.2 (.inr hk1), fun e => by cases e⟩
    have hkb : (k == 1) = false := by simp [hk1]
    have hkc : (k != 1) = true := by simp [hk1]
    have HNK : Hid ((decF raw).2.kind ≠ 1) := by show _ ≠ _; rw [← HKQ.out]; exact hk1
    have HFF : Hid (fb = false) := HF1.out.1 HDD.out hk1
    have hwf := decF_wf HRL.out HD0.out
    have hkr : 0 ≤ k ∧ k < 8 := by have h1 := hwf.kind; rw [← HKQ.out] at h1; omega
    have hwr0 := writes_any V'.drew k hkr
    have HWF := hid_of hwf
    have HNO : Hid ((s.inst = none ∨ ¬ ((decF raw).2.kind = 2 ∨ (decF raw).2.kind = 3 ∨ (decF raw).2.kind = 4)) → zFU s raw fb) := fun hn q s' h _ => by
      have h9 := cap_not h HD0.out HNK.out hn
      rw [HFF.out]
      exact ⟨fun e => absurd e h9, fun e => by cases e⟩
    clear hwf
    by_cases hw : 1 ≤ k ∧ k ≤ 4
    rotate_left 1
    · have hwr : Calls Tryz.prog 36 #[.int .i64 k] V'.drew fun e V => e = .returned (.bool false) ∧ V = V'.drew := by rw [decide_eq_false hw] at hwr0; exact hwr0
      clear hwr0
      have HNW : Hid (zFU s raw fb) := HNO.out (.inr (by rw [← HKQ.out]; omega))
      clear hw
      repeat go_step
      refine wp_region_held_drew (S := fun W' => blk W' b7 = some RQ ∧ blk W' bm = some Ce) (by kernel_rfl) ⟨hb7, hbm⟩ (fun hHeld => ?_)
      refine wpAnyH_take (i := 0) (oi := ⟨_, _, _, _, _, _⟩) (v := ?_) rfl (by kernel_rfl) (by kernel_rfl) (by kernel_rfl) (fun _ _ _ h => h) (Or.inl ⟨by rfl, ?_⟩) (by assumption) ?_
      rotate_left 1
      · intro W' hSw
        obtain ⟨hS1, hS2⟩ := hSw
        go_simp
        try with_reducible rfl
      try simp only [Act.put, List.setIfInBounds_toArray, List.set_cons_zero, List.set_cons_succ]
      refine wpAnyH_take (i := 1) (oi := ⟨_, _, _, _, _, _⟩) (v := ?_) rfl (by kernel_rfl) (by kernel_rfl) (by kernel_rfl) (fun _ _ _ h => h) (Or.inl ⟨by rfl, ?_⟩) (by assumption) ?_
      rotate_left 1
      · intro W' hSw
        obtain ⟨hS1, hS2⟩ := hSw
        go_simp
        try with_reducible rfl
      try simp only [Act.put, List.setIfInBounds_toArray, List.set_cons_zero, List.set_cons_succ]
      refine wpAnyH_take (i := 2) (oi := ⟨_, _, _, _, _, _⟩) (v := ?_) rfl (by kernel_rfl) (by kernel_rfl) (by kernel_rfl) (fun _ _ _ h => h) (Or.inl ⟨by rfl, ?_⟩) (by assumption) ?_
      rotate_left 1
      · intro W' hSw
        obtain ⟨hS1, hS2⟩ := hSw
        go_simp
        try with_reducible rfl
      try simp only [Act.put, List.setIfInBounds_toArray, List.set_cons_zero, List.set_cons_succ]
      refine wpAnyH_take (i := 3) (oi := ⟨_, _, _, _, _, _⟩) (v := ?_) rfl (by kernel_rfl) (by kernel_rfl) (by kernel_rfl) (fun _ _ _ h => h) (Or.inl ⟨by rfl, ?_⟩) (by assumption) ?_
      rotate_left 1
      · intro W' hSw
        obtain ⟨hS1, hS2⟩ := hSw
        go_simp
        try with_reducible rfl
      try simp only [Act.put, List.setIfInBounds_toArray, List.set_cons_zero, List.set_cons_succ]
      refine wpAnyH_take (i := 4) (oi := ⟨_, _, _, _, _, _⟩) (v := ?_) rfl (by kernel_rfl) (by kernel_rfl) (by kernel_rfl) (fun _ _ _ h => h) (Or.inl ⟨by rfl, ?_⟩) (by assumption) ?_
      rotate_left 1
      · intro W' hSw
        obtain ⟨hS1, hS2⟩ := hSw
        go_simp
        try with_reducible rfl
      try simp only [Act.put, List.setIfInBounds_toArray, List.set_cons_zero, List.set_cons_succ]
      refine wpAnyH_take (i := 5) (oi := ⟨_, _, _, _, _, _⟩) (v := ?_) rfl (by kernel_rfl) (by kernel_rfl) (by kernel_rfl) (fun _ _ _ h => h) (Or.inl ⟨by rfl, ?_⟩) (by assumption) ?_
      rotate_left 1
      · intro W' hSw
        obtain ⟨hS1, hS2⟩ := hSw
        go_simp
        try with_reducible rfl
      try simp only [Act.put, List.setIfInBounds_toArray, List.set_cons_zero, List.set_cons_succ]
      refine wpAnyH_take (i := 6) (oi := ⟨_, _, _, _, _, _⟩) (v := ?_) rfl (by kernel_rfl) (by kernel_rfl) (by kernel_rfl) (fun _ _ _ h => h) (Or.inl ⟨by rfl, ?_⟩) (by assumption) ?_
      rotate_left 1
      · intro W' hSw
        obtain ⟨hS1, hS2⟩ := hSw
        go_simp
        try with_reducible rfl
      try simp only [Act.put, List.setIfInBounds_toArray, List.set_cons_zero, List.set_cons_succ]
      refine wpAnyH_take (i := 7) (oi := ⟨_, _, _, _, _, _⟩) (v := ?_) rfl (by kernel_rfl) (by kernel_rfl) (by kernel_rfl) (fun _ _ _ h => h) (Or.inl ⟨by rfl, ?_⟩) (by assumption) ?_
      rotate_left 1
      · intro W' hSw
        obtain ⟨hS1, hS2⟩ := hSw
        go_simp
        try with_reducible rfl
      try simp only [Act.put, List.setIfInBounds_toArray, List.set_cons_zero, List.set_cons_succ]
      refine wpAnyH_take (i := 8) (oi := ⟨_, _, _, _, _, _⟩) (v := ?_) rfl (by kernel_rfl) (by kernel_rfl) (by kernel_rfl) (fun _ _ _ h => h) (Or.inl ⟨by rfl, ?_⟩) (by assumption) ?_
      rotate_left 1
      · intro W' hSw
        obtain ⟨hS1, hS2⟩ := hSw
        go_simp
        try with_reducible rfl
      try simp only [Act.put, List.setIfInBounds_toArray, List.set_cons_zero, List.set_cons_succ]
      refine wpAnyH_take (i := 9) (oi := ⟨_, _, _, _, _, _⟩) (v := ?_) rfl (by kernel_rfl) (by kernel_rfl) (by kernel_rfl) (fun _ _ _ h => h) (Or.inl ⟨by rfl, ?_⟩) (by assumption) ?_
      rotate_left 1
      · intro W' hSw
        obtain ⟨hS1, hS2⟩ := hSw
        go_simp
        try with_reducible rfl
      try simp only [Act.put, List.setIfInBounds_toArray, List.set_cons_zero, List.set_cons_succ]
      refine wpAnyH_ready (rs := [10]) (by kernel_rfl) (by simp) ?_
      refine AllReadyH.cons (o := ⟨_, _, _, _, _, _⟩) rfl (fun K' hK => ?_) AllReadyH.nil
      go_simp
      refine hwr.mono ?_
      rintro e Z1 ⟨rfl, rfl⟩
      dsimp only
      refine hK.out _ _ ⟨hb7', hbm'⟩ (fun hHeld => ?_)
      clear hK K'
      try simp only [Act.put, List.setIfInBounds_toArray, List.set_cons_zero, List.set_cons_succ]
      refine wpAnyH_take (i := 11) (oi := ⟨_, _, _, _, _, _⟩) (v := ?_) rfl (by kernel_rfl) (by kernel_rfl) (by kernel_rfl) (fun _ _ _ h => h) (Or.inl ⟨by rfl, ?_⟩) (by assumption) ?_
      rotate_left 1
      · intro W' hSw
        obtain ⟨hS1, hS2⟩ := hSw
        go_simp
        try with_reducible rfl
      try simp only [Act.put, List.setIfInBounds_toArray, List.set_cons_zero, List.set_cons_succ]
      refine wpAnyH_take (i := 12) (oi := ⟨_, _, _, _, _, _⟩) (v := ?_) rfl (by kernel_rfl) (by kernel_rfl) (by kernel_rfl) (fun _ _ _ h => h) (Or.inl ⟨by rfl, ?_⟩) (by assumption) ?_
      rotate_left 1
      · intro W' hSw
        obtain ⟨hS1, hS2⟩ := hSw
        go_simp
        try with_reducible rfl
      try simp only [Act.put, List.setIfInBounds_toArray, List.set_cons_zero, List.set_cons_succ]
      refine wpAnyH_take (i := 13) (oi := ⟨_, _, _, _, _, _⟩) (v := undef) rfl (by kernel_rfl) (by kernel_rfl) (by kernel_rfl) (fun _ _ _ h => h) (Or.inr ⟨by rfl, rfl⟩) (by assumption) ?_
      try simp only [Act.put, List.setIfInBounds_toArray, List.set_cons_zero, List.set_cons_succ]
      refine wpAnyH_take (i := 14) (oi := ⟨_, _, _, _, _, _⟩) (v := undef) rfl (by kernel_rfl) (by kernel_rfl) (by kernel_rfl) (fun _ _ _ h => h) (Or.inr ⟨by rfl, rfl⟩) (by assumption) ?_
      try simp only [Act.put, List.setIfInBounds_toArray, List.set_cons_zero, List.set_cons_succ]
      refine wpAnyH_take (i := 15) (oi := ⟨_, _, _, _, _, _⟩) (v := undef) rfl (by kernel_rfl) (by kernel_rfl) (by kernel_rfl) (fun _ _ _ h => h) (Or.inr ⟨by rfl, rfl⟩) (by assumption) ?_
      try simp only [Act.put, List.setIfInBounds_toArray, List.set_cons_zero, List.set_cons_succ]
      refine wpAnyH_take (i := 16) (oi := ⟨_, _, _, _, _, _⟩) (v := undef) rfl (by kernel_rfl) (by kernel_rfl) (by kernel_rfl) (fun _ _ _ h => h) (Or.inr ⟨by rfl, rfl⟩) (by assumption) ?_
      try simp only [Act.put, List.setIfInBounds_toArray, List.set_cons_zero, List.set_cons_succ]
      refine wpAnyH_take (i := 17) (oi := ⟨_, _, _, _, _, _⟩) (v := ?_) rfl (by kernel_rfl) (by kernel_rfl) (by kernel_rfl) (fun _ _ _ h => h) (Or.inl ⟨by rfl, ?_⟩) (by assumption) ?_
      rotate_left 1
      · intro W' hSw
        obtain ⟨hS1, hS2⟩ := hSw
        go_simp
        try with_reducible rfl
      try simp only [Act.put, List.setIfInBounds_toArray, List.set_cons_zero, List.set_cons_succ]
      refine wpAnyH_take (i := 18) (oi := ⟨_, _, _, _, _, _⟩) (v := ?_) rfl (by kernel_rfl) (by kernel_rfl) (by kernel_rfl) (fun _ _ _ h => h) (Or.inl ⟨by rfl, ?_⟩) (by assumption) ?_
      rotate_left 1
      · intro W' hSw
        obtain ⟨hS1, hS2⟩ := hSw
        go_simp
        try with_reducible rfl
      try simp only [Act.put, List.setIfInBounds_toArray, List.set_cons_zero, List.set_cons_succ]
      refine wpAnyH_take (i := 19) (oi := ⟨_, _, _, _, _, _⟩) (v := undef) rfl (by kernel_rfl) (by kernel_rfl) (by kernel_rfl) (fun _ _ _ h => h) (Or.inr ⟨by rfl, rfl⟩) (by assumption) ?_
      try simp only [Act.put, List.setIfInBounds_toArray, List.set_cons_zero, List.set_cons_succ]
      refine wpAnyH_take (i := 20) (oi := ⟨_, _, _, _, _, _⟩) (v := undef) rfl (by kernel_rfl) (by kernel_rfl) (by kernel_rfl) (fun _ _ _ h => h) (Or.inr ⟨by rfl, rfl⟩) (by assumption) ?_
      try simp only [Act.put, List.setIfInBounds_toArray, List.set_cons_zero, List.set_cons_succ]
      refine wpAnyH_take (i := 21) (oi := ⟨_, _, _, _, _, _⟩) (v := undef) rfl (by kernel_rfl) (by kernel_rfl) (by kernel_rfl) (fun _ _ _ h => h) (Or.inr ⟨by rfl, rfl⟩) (by assumption) ?_
      try simp only [Act.put, List.setIfInBounds_toArray, List.set_cons_zero, List.set_cons_succ]
      refine wpAnyH_take (i := 22) (oi := ⟨_, _, _, _, _, _⟩) (v := undef) rfl (by kernel_rfl) (by kernel_rfl) (by kernel_rfl) (fun _ _ _ h => h) (Or.inr ⟨by rfl, rfl⟩) (by assumption) ?_
      try simp only [Act.put, List.setIfInBounds_toArray, List.set_cons_zero, List.set_cons_succ]
      refine wpAnyH_take (i := 23) (oi := ⟨_, _, _, _, _, _⟩) (v := undef) rfl (by kernel_rfl) (by kernel_rfl) (by kernel_rfl) (fun _ _ _ h => h) (Or.inr ⟨by rfl, rfl⟩) (by assumption) ?_
      try simp only [Act.put, List.setIfInBounds_toArray, List.set_cons_zero, List.set_cons_succ]
      refine wpAnyH_take (i := 24) (oi := ⟨_, _, _, _, _, _⟩) (v := undef) rfl (by kernel_rfl) (by kernel_rfl) (by kernel_rfl) (fun _ _ _ h => h) (Or.inr ⟨by rfl, rfl⟩) (by assumption) ?_
      try simp only [Act.put, List.setIfInBounds_toArray, List.set_cons_zero, List.set_cons_succ]
      refine wpAnyH_take (i := 25) (oi := ⟨_, _, _, _, _, _⟩) (v := ?_) rfl (by kernel_rfl) (by kernel_rfl) (by kernel_rfl) (fun _ _ _ h => h) (Or.inl ⟨by rfl, ?_⟩) (by assumption) ?_
      rotate_left 1
      · intro W' hSw
        obtain ⟨hS1, hS2⟩ := hSw
        go_simp
        try with_reducible rfl
      try simp only [Act.put, List.setIfInBounds_toArray, List.set_cons_zero, List.set_cons_succ]
      refine wpAnyH_done (by kernel_rfl) ?_ _
      clear hHeld
      go_wp2_with fail
      refine ⟨rfl, rfl, ?_⟩
      rw [HI3.out]
      refine ⟨⟨rfl, rfl, rfl, rfl, rfl, rfl⟩, HWD.out, fb, false, rfl, rfl, ?_⟩
      exact ⟨fun _ => HNW.out, fun e => by cases e⟩
    have hwr : Calls Tryz.prog 36 #[.int .i64 k] V'.drew fun e V => e = .returned (.bool true) ∧ V = V'.drew := by rw [decide_eq_true hw] at hwr0; exact hwr0
    have HKW : Hid (k = 2 ∨ k = 3 ∨ k = 4) := by show _ ∨ _; omega
    clear hwr0 hw
    cases hlm : m.ld with
    | false =>
      rw [hlm] at cld
      have HNW : Hid (zFU s raw fb) := HNO.out (.inl (by
        rcases HJ1.out.ag with ⟨h1, -⟩ | ⟨t, -, h⟩
        · exact h1
        · have h2 := h.ld; rw [hlm] at h2; cases h2))
      clear hlm
      repeat go_step
      refine wp_region_held_drew (S := fun W' => blk W' b7 = some RQ ∧ blk W' bm = some Ce) (by kernel_rfl) ⟨hb7, hbm⟩ (fun hHeld => ?_)
      refine wpAnyH_take (i := 0) (oi := ⟨_, _, _, _, _, _⟩) (v := ?_) rfl (by kernel_rfl) (by kernel_rfl) (by kernel_rfl) (fun _ _ _ h => h) (Or.inl ⟨by rfl, ?_⟩) (by assumption) ?_
      rotate_left 1
      · intro W' hSw
        obtain ⟨hS1, hS2⟩ := hSw
        go_simp
        try with_reducible rfl
      try simp only [Act.put, List.setIfInBounds_toArray, List.set_cons_zero, List.set_cons_succ]
      refine wpAnyH_take (i := 1) (oi := ⟨_, _, _, _, _, _⟩) (v := ?_) rfl (by kernel_rfl) (by kernel_rfl) (by kernel_rfl) (fun _ _ _ h => h) (Or.inl ⟨by rfl, ?_⟩) (by assumption) ?_
      rotate_left 1
      · intro W' hSw
        obtain ⟨hS1, hS2⟩ := hSw
        go_simp
        try with_reducible rfl
      try simp only [Act.put, List.setIfInBounds_toArray, List.set_cons_zero, List.set_cons_succ]
      refine wpAnyH_take (i := 2) (oi := ⟨_, _, _, _, _, _⟩) (v := ?_) rfl (by kernel_rfl) (by kernel_rfl) (by kernel_rfl) (fun _ _ _ h => h) (Or.inl ⟨by rfl, ?_⟩) (by assumption) ?_
      rotate_left 1
      · intro W' hSw
        obtain ⟨hS1, hS2⟩ := hSw
        go_simp
        try with_reducible rfl
      try simp only [Act.put, List.setIfInBounds_toArray, List.set_cons_zero, List.set_cons_succ]
      refine wpAnyH_take (i := 3) (oi := ⟨_, _, _, _, _, _⟩) (v := ?_) rfl (by kernel_rfl) (by kernel_rfl) (by kernel_rfl) (fun _ _ _ h => h) (Or.inl ⟨by rfl, ?_⟩) (by assumption) ?_
      rotate_left 1
      · intro W' hSw
        obtain ⟨hS1, hS2⟩ := hSw
        go_simp
        try with_reducible rfl
      try simp only [Act.put, List.setIfInBounds_toArray, List.set_cons_zero, List.set_cons_succ]
      refine wpAnyH_take (i := 4) (oi := ⟨_, _, _, _, _, _⟩) (v := ?_) rfl (by kernel_rfl) (by kernel_rfl) (by kernel_rfl) (fun _ _ _ h => h) (Or.inl ⟨by rfl, ?_⟩) (by assumption) ?_
      rotate_left 1
      · intro W' hSw
        obtain ⟨hS1, hS2⟩ := hSw
        go_simp
        try with_reducible rfl
      try simp only [Act.put, List.setIfInBounds_toArray, List.set_cons_zero, List.set_cons_succ]
      refine wpAnyH_take (i := 5) (oi := ⟨_, _, _, _, _, _⟩) (v := ?_) rfl (by kernel_rfl) (by kernel_rfl) (by kernel_rfl) (fun _ _ _ h => h) (Or.inl ⟨by rfl, ?_⟩) (by assumption) ?_
      rotate_left 1
      · intro W' hSw
        obtain ⟨hS1, hS2⟩ := hSw
        go_simp
        try with_reducible rfl
      try simp only [Act.put, List.setIfInBounds_toArray, List.set_cons_zero, List.set_cons_succ]
      refine wpAnyH_take (i := 6) (oi := ⟨_, _, _, _, _, _⟩) (v := ?_) rfl (by kernel_rfl) (by kernel_rfl) (by kernel_rfl) (fun _ _ _ h => h) (Or.inl ⟨by rfl, ?_⟩) (by assumption) ?_
      rotate_left 1
      · intro W' hSw
        obtain ⟨hS1, hS2⟩ := hSw
        go_simp
        try with_reducible rfl
      try simp only [Act.put, List.setIfInBounds_toArray, List.set_cons_zero, List.set_cons_succ]
      refine wpAnyH_take (i := 7) (oi := ⟨_, _, _, _, _, _⟩) (v := ?_) rfl (by kernel_rfl) (by kernel_rfl) (by kernel_rfl) (fun _ _ _ h => h) (Or.inl ⟨by rfl, ?_⟩) (by assumption) ?_
      rotate_left 1
      · intro W' hSw
        obtain ⟨hS1, hS2⟩ := hSw
        go_simp
        try with_reducible rfl
      try simp only [Act.put, List.setIfInBounds_toArray, List.set_cons_zero, List.set_cons_succ]
      refine wpAnyH_take (i := 8) (oi := ⟨_, _, _, _, _, _⟩) (v := ?_) rfl (by kernel_rfl) (by kernel_rfl) (by kernel_rfl) (fun _ _ _ h => h) (Or.inl ⟨by rfl, ?_⟩) (by assumption) ?_
      rotate_left 1
      · intro W' hSw
        obtain ⟨hS1, hS2⟩ := hSw
        go_simp
        try with_reducible rfl
      try simp only [Act.put, List.setIfInBounds_toArray, List.set_cons_zero, List.set_cons_succ]
      refine wpAnyH_take (i := 9) (oi := ⟨_, _, _, _, _, _⟩) (v := ?_) rfl (by kernel_rfl) (by kernel_rfl) (by kernel_rfl) (fun _ _ _ h => h) (Or.inl ⟨by rfl, ?_⟩) (by assumption) ?_
      rotate_left 1
      · intro W' hSw
        obtain ⟨hS1, hS2⟩ := hSw
        go_simp
        try with_reducible rfl
      try simp only [Act.put, List.setIfInBounds_toArray, List.set_cons_zero, List.set_cons_succ]
      refine wpAnyH_ready (rs := [10]) (by kernel_rfl) (by simp) ?_
      refine AllReadyH.cons (o := ⟨_, _, _, _, _, _⟩) rfl (fun K' hK => ?_) AllReadyH.nil
      go_simp
      refine hwr.mono ?_
      rintro e Z1 ⟨rfl, rfl⟩
      dsimp only
      refine hK.out _ _ ⟨hb7', hbm'⟩ (fun hHeld => ?_)
      clear hK K'
      try simp only [Act.put, List.setIfInBounds_toArray, List.set_cons_zero, List.set_cons_succ]
      refine wpAnyH_take (i := 11) (oi := ⟨_, _, _, _, _, _⟩) (v := ?_) rfl (by kernel_rfl) (by kernel_rfl) (by kernel_rfl) (fun _ _ _ h => h) (Or.inl ⟨by rfl, ?_⟩) (by assumption) ?_
      rotate_left 1
      · intro W' hSw
        obtain ⟨hS1, hS2⟩ := hSw
        go_simp
        try with_reducible rfl
      try simp only [Act.put, List.setIfInBounds_toArray, List.set_cons_zero, List.set_cons_succ]
      refine wpAnyH_take (i := 12) (oi := ⟨_, _, _, _, _, _⟩) (v := ?_) rfl (by kernel_rfl) (by kernel_rfl) (by kernel_rfl) (fun _ _ _ h => h) (Or.inl ⟨by rfl, ?_⟩) (by assumption) ?_
      rotate_left 1
      · intro W' hSw
        obtain ⟨hS1, hS2⟩ := hSw
        go_simp
        try with_reducible rfl
      try simp only [Act.put, List.setIfInBounds_toArray, List.set_cons_zero, List.set_cons_succ]
      refine wpAnyH_take (i := 13) (oi := ⟨_, _, _, _, _, _⟩) (v := ?_) rfl (by kernel_rfl) (by kernel_rfl) (by kernel_rfl) (fun _ _ _ h => h) (Or.inl ⟨by rfl, ?_⟩) (by assumption) ?_
      rotate_left 1
      · intro W' hSw
        obtain ⟨hS1, hS2⟩ := hSw
        go_simp
        try with_reducible rfl
      try simp only [Act.put, List.setIfInBounds_toArray, List.set_cons_zero, List.set_cons_succ]
      refine wpAnyH_take (i := 14) (oi := ⟨_, _, _, _, _, _⟩) (v := ?_) rfl (by kernel_rfl) (by kernel_rfl) (by kernel_rfl) (fun _ _ _ h => h) (Or.inl ⟨by rfl, ?_⟩) (by assumption) ?_
      rotate_left 1
      · intro W' hSw
        obtain ⟨hS1, hS2⟩ := hSw
        go_simp
        try with_reducible rfl
      try simp only [Act.put, List.setIfInBounds_toArray, List.set_cons_zero, List.set_cons_succ]
      refine wpAnyH_take (i := 15) (oi := ⟨_, _, _, _, _, _⟩) (v := ?_) rfl (by kernel_rfl) (by kernel_rfl) (by kernel_rfl) (fun _ _ _ h => h) (Or.inl ⟨by rfl, ?_⟩) (by assumption) ?_
      rotate_left 1
      · intro W' hSw
        obtain ⟨hS1, hS2⟩ := hSw
        go_simp
        try with_reducible rfl
      try simp only [Act.put, List.setIfInBounds_toArray, List.set_cons_zero, List.set_cons_succ]
      refine wpAnyH_take (i := 16) (oi := ⟨_, _, _, _, _, _⟩) (v := ?_) rfl (by kernel_rfl) (by kernel_rfl) (by kernel_rfl) (fun _ _ _ h => h) (Or.inl ⟨by rfl, ?_⟩) (by assumption) ?_
      rotate_left 1
      · intro W' hSw
        obtain ⟨hS1, hS2⟩ := hSw
        go_simp
        try with_reducible rfl
      try simp only [Act.put, List.setIfInBounds_toArray, List.set_cons_zero, List.set_cons_succ]
      refine wpAnyH_take (i := 17) (oi := ⟨_, _, _, _, _, _⟩) (v := ?_) rfl (by kernel_rfl) (by kernel_rfl) (by kernel_rfl) (fun _ _ _ h => h) (Or.inl ⟨by rfl, ?_⟩) (by assumption) ?_
      rotate_left 1
      · intro W' hSw
        obtain ⟨hS1, hS2⟩ := hSw
        go_simp
        try with_reducible rfl
      try simp only [Act.put, List.setIfInBounds_toArray, List.set_cons_zero, List.set_cons_succ]
      refine wpAnyH_take (i := 18) (oi := ⟨_, _, _, _, _, _⟩) (v := ?_) rfl (by kernel_rfl) (by kernel_rfl) (by kernel_rfl) (fun _ _ _ h => h) (Or.inl ⟨by rfl, ?_⟩) (by assumption) ?_
      rotate_left 1
      · intro W' hSw
        obtain ⟨hS1, hS2⟩ := hSw
        go_simp
        try with_reducible rfl
      try simp only [Act.put, List.setIfInBounds_toArray, List.set_cons_zero, List.set_cons_succ]
      refine wpAnyH_take (i := 19) (oi := ⟨_, _, _, _, _, _⟩) (v := undef) rfl (by kernel_rfl) (by kernel_rfl) (by kernel_rfl) (fun _ _ _ h => h) (Or.inr ⟨by rfl, rfl⟩) (by assumption) ?_
      try simp only [Act.put, List.setIfInBounds_toArray, List.set_cons_zero, List.set_cons_succ]
      refine wpAnyH_take (i := 20) (oi := ⟨_, _, _, _, _, _⟩) (v := undef) rfl (by kernel_rfl) (by kernel_rfl) (by kernel_rfl) (fun _ _ _ h => h) (Or.inr ⟨by rfl, rfl⟩) (by assumption) ?_
      try simp only [Act.put, List.setIfInBounds_toArray, List.set_cons_zero, List.set_cons_succ]
      refine wpAnyH_take (i := 21) (oi := ⟨_, _, _, _, _, _⟩) (v := undef) rfl (by kernel_rfl) (by kernel_rfl) (by kernel_rfl) (fun _ _ _ h => h) (Or.inr ⟨by rfl, rfl⟩) (by assumption) ?_
      try simp only [Act.put, List.setIfInBounds_toArray, List.set_cons_zero, List.set_cons_succ]
      refine wpAnyH_take (i := 22) (oi := ⟨_, _, _, _, _, _⟩) (v := undef) rfl (by kernel_rfl) (by kernel_rfl) (by kernel_rfl) (fun _ _ _ h => h) (Or.inr ⟨by rfl, rfl⟩) (by assumption) ?_
      try simp only [Act.put, List.setIfInBounds_toArray, List.set_cons_zero, List.set_cons_succ]
      refine wpAnyH_take (i := 23) (oi := ⟨_, _, _, _, _, _⟩) (v := undef) rfl (by kernel_rfl) (by kernel_rfl) (by kernel_rfl) (fun _ _ _ h => h) (Or.inr ⟨by rfl, rfl⟩) (by assumption) ?_
      try simp only [Act.put, List.setIfInBounds_toArray, List.set_cons_zero, List.set_cons_succ]
      refine wpAnyH_take (i := 24) (oi := ⟨_, _, _, _, _, _⟩) (v := undef) rfl (by kernel_rfl) (by kernel_rfl) (by kernel_rfl) (fun _ _ _ h => h) (Or.inr ⟨by rfl, rfl⟩) (by assumption) ?_
      try simp only [Act.put, List.setIfInBounds_toArray, List.set_cons_zero, List.set_cons_succ]
      refine wpAnyH_take (i := 25) (oi := ⟨_, _, _, _, _, _⟩) (v := ?_) rfl (by kernel_rfl) (by kernel_rfl) (by kernel_rfl) (fun _ _ _ h => h) (Or.inl ⟨by rfl, ?_⟩) (by assumption) ?_
      rotate_left 1
      · intro W' hSw
        obtain ⟨hS1, hS2⟩ := hSw
        go_simp
        try with_reducible rfl
      try simp only [Act.put, List.setIfInBounds_toArray, List.set_cons_zero, List.set_cons_succ]
      refine wpAnyH_done (by kernel_rfl) ?_ _
      clear hHeld
      go_wp2_with fail
      refine ⟨rfl, rfl, ?_⟩
      rw [HI3.out]
      refine ⟨⟨rfl, rfl, rfl, rfl, rfl, rfl⟩, HWD.out, fb, false, rfl, rfl, ?_⟩
      exact ⟨fun _ => HNW.out, fun e => by cases e⟩
    | true =>
      rw [hlm] at cld
      have hMI := HJ1.out.ag.msi HJ1.out.ls.inv hlm
      have hbd := decF_bd HD0.out HRL.out
      have hIt := HRQ1.out.2.2.2.2.1
      have hst0 := static_any V'.drew bm m Ce fa fc (HMO.out.kp (Kp.fr ((Fr.refl (fun _ => False) _ _).drewN 1) (fun _ _ e => e))).at hlm hMI qa qn qc (decF raw).2.items ((hIt.sub (Sub.core _ _)).sub (Sub.ext (extends_drewN (ext_Ext (Ext.refl _)) 1))) (by rw [← hIt.len]; exact HWF.out.len) (fun it hit => ⟨(HWF.out.its it hit).2.1, (HWF.out.its it hit).1, hbd.1 it hit⟩)
      obtain ⟨sb, esb⟩ : ∃ sb, sb = decide (ckL m.p (decF raw).2.items 0 = none) := ⟨_, rfl⟩
      rw [← esb] at hst0
      have hst := hst0
      have HSB := hid_of esb
      have HLM := hid_of hlm
      have k22 : True := trivial
      clear hst0 hMI hbd hIt esb hlm
      repeat go_step
      refine wp_region_held_drew (S := fun W' => blk W' b7 = some RQ ∧ blk W' bm = some Ce) (by kernel_rfl) ⟨hb7, hbm⟩ (fun hHeld => ?_)
      refine wpAnyH_take (i := 0) (oi := ⟨_, _, _, _, _, _⟩) (v := ?_) rfl (by kernel_rfl) (by kernel_rfl) (by kernel_rfl) (fun _ _ _ h => h) (Or.inl ⟨by rfl, ?_⟩) (by assumption) ?_
      rotate_left 1
      · intro W' hSw
        obtain ⟨hS1, hS2⟩ := hSw
        go_simp
        try with_reducible rfl
      try simp only [Act.put, List.setIfInBounds_toArray, List.set_cons_zero, List.set_cons_succ]
      refine wpAnyH_take (i := 1) (oi := ⟨_, _, _, _, _, _⟩) (v := ?_) rfl (by kernel_rfl) (by kernel_rfl) (by kernel_rfl) (fun _ _ _ h => h) (Or.inl ⟨by rfl, ?_⟩) (by assumption) ?_
      rotate_left 1
      · intro W' hSw
        obtain ⟨hS1, hS2⟩ := hSw
        go_simp
        try with_reducible rfl
      try simp only [Act.put, List.setIfInBounds_toArray, List.set_cons_zero, List.set_cons_succ]
      refine wpAnyH_take (i := 2) (oi := ⟨_, _, _, _, _, _⟩) (v := ?_) rfl (by kernel_rfl) (by kernel_rfl) (by kernel_rfl) (fun _ _ _ h => h) (Or.inl ⟨by rfl, ?_⟩) (by assumption) ?_
      rotate_left 1
      · intro W' hSw
        obtain ⟨hS1, hS2⟩ := hSw
        go_simp
        try with_reducible rfl
      try simp only [Act.put, List.setIfInBounds_toArray, List.set_cons_zero, List.set_cons_succ]
      refine wpAnyH_take (i := 3) (oi := ⟨_, _, _, _, _, _⟩) (v := ?_) rfl (by kernel_rfl) (by kernel_rfl) (by kernel_rfl) (fun _ _ _ h => h) (Or.inl ⟨by rfl, ?_⟩) (by assumption) ?_
      rotate_left 1
      · intro W' hSw
        obtain ⟨hS1, hS2⟩ := hSw
        go_simp
        try with_reducible rfl
      try simp only [Act.put, List.setIfInBounds_toArray, List.set_cons_zero, List.set_cons_succ]
      refine wpAnyH_take (i := 4) (oi := ⟨_, _, _, _, _, _⟩) (v := ?_) rfl (by kernel_rfl) (by kernel_rfl) (by kernel_rfl) (fun _ _ _ h => h) (Or.inl ⟨by rfl, ?_⟩) (by assumption) ?_
      rotate_left 1
      · intro W' hSw
        obtain ⟨hS1, hS2⟩ := hSw
        go_simp
        try with_reducible rfl
      try simp only [Act.put, List.setIfInBounds_toArray, List.set_cons_zero, List.set_cons_succ]
      refine wpAnyH_take (i := 5) (oi := ⟨_, _, _, _, _, _⟩) (v := ?_) rfl (by kernel_rfl) (by kernel_rfl) (by kernel_rfl) (fun _ _ _ h => h) (Or.inl ⟨by rfl, ?_⟩) (by assumption) ?_
      rotate_left 1
      · intro W' hSw
        obtain ⟨hS1, hS2⟩ := hSw
        go_simp
        try with_reducible rfl
      try simp only [Act.put, List.setIfInBounds_toArray, List.set_cons_zero, List.set_cons_succ]
      refine wpAnyH_take (i := 6) (oi := ⟨_, _, _, _, _, _⟩) (v := ?_) rfl (by kernel_rfl) (by kernel_rfl) (by kernel_rfl) (fun _ _ _ h => h) (Or.inl ⟨by rfl, ?_⟩) (by assumption) ?_
      rotate_left 1
      · intro W' hSw
        obtain ⟨hS1, hS2⟩ := hSw
        go_simp
        try with_reducible rfl
      try simp only [Act.put, List.setIfInBounds_toArray, List.set_cons_zero, List.set_cons_succ]
      refine wpAnyH_take (i := 7) (oi := ⟨_, _, _, _, _, _⟩) (v := ?_) rfl (by kernel_rfl) (by kernel_rfl) (by kernel_rfl) (fun _ _ _ h => h) (Or.inl ⟨by rfl, ?_⟩) (by assumption) ?_
      rotate_left 1
      · intro W' hSw
        obtain ⟨hS1, hS2⟩ := hSw
        go_simp
        try with_reducible rfl
      try simp only [Act.put, List.setIfInBounds_toArray, List.set_cons_zero, List.set_cons_succ]
      refine wpAnyH_take (i := 8) (oi := ⟨_, _, _, _, _, _⟩) (v := ?_) rfl (by kernel_rfl) (by kernel_rfl) (by kernel_rfl) (fun _ _ _ h => h) (Or.inl ⟨by rfl, ?_⟩) (by assumption) ?_
      rotate_left 1
      · intro W' hSw
        obtain ⟨hS1, hS2⟩ := hSw
        go_simp
        try with_reducible rfl
      try simp only [Act.put, List.setIfInBounds_toArray, List.set_cons_zero, List.set_cons_succ]
      refine wpAnyH_take (i := 9) (oi := ⟨_, _, _, _, _, _⟩) (v := ?_) rfl (by kernel_rfl) (by kernel_rfl) (by kernel_rfl) (fun _ _ _ h => h) (Or.inl ⟨by rfl, ?_⟩) (by assumption) ?_
      rotate_left 1
      · intro W' hSw
        obtain ⟨hS1, hS2⟩ := hSw
        go_simp
        try with_reducible rfl
      try simp only [Act.put, List.setIfInBounds_toArray, List.set_cons_zero, List.set_cons_succ]
      refine wpAnyH_ready (rs := [10]) (by kernel_rfl) (by simp) ?_
      refine AllReadyH.cons (o := ⟨_, _, _, _, _, _⟩) rfl (fun K' hK => ?_) AllReadyH.nil
      go_simp
      refine hwr.mono ?_
      rintro e Z1 ⟨rfl, rfl⟩
      dsimp only
      refine hK.out _ _ ⟨hb7', hbm'⟩ (fun hHeld => ?_)
      clear hK K'
      try simp only [Act.put, List.setIfInBounds_toArray, List.set_cons_zero, List.set_cons_succ]
      refine wpAnyH_take (i := 11) (oi := ⟨_, _, _, _, _, _⟩) (v := ?_) rfl (by kernel_rfl) (by kernel_rfl) (by kernel_rfl) (fun _ _ _ h => h) (Or.inl ⟨by rfl, ?_⟩) (by assumption) ?_
      rotate_left 1
      · intro W' hSw
        obtain ⟨hS1, hS2⟩ := hSw
        go_simp
        try with_reducible rfl
      try simp only [Act.put, List.setIfInBounds_toArray, List.set_cons_zero, List.set_cons_succ]
      refine wpAnyH_take (i := 12) (oi := ⟨_, _, _, _, _, _⟩) (v := ?_) rfl (by kernel_rfl) (by kernel_rfl) (by kernel_rfl) (fun _ _ _ h => h) (Or.inl ⟨by rfl, ?_⟩) (by assumption) ?_
      rotate_left 1
      · intro W' hSw
        obtain ⟨hS1, hS2⟩ := hSw
        go_simp
        try with_reducible rfl
      try simp only [Act.put, List.setIfInBounds_toArray, List.set_cons_zero, List.set_cons_succ]
      refine wpAnyH_take (i := 13) (oi := ⟨_, _, _, _, _, _⟩) (v := ?_) rfl (by kernel_rfl) (by kernel_rfl) (by kernel_rfl) (fun _ _ _ h => h) (Or.inl ⟨by rfl, ?_⟩) (by assumption) ?_
      rotate_left 1
      · intro W' hSw
        obtain ⟨hS1, hS2⟩ := hSw
        go_simp
        try with_reducible rfl
      try simp only [Act.put, List.setIfInBounds_toArray, List.set_cons_zero, List.set_cons_succ]
      refine wpAnyH_take (i := 14) (oi := ⟨_, _, _, _, _, _⟩) (v := ?_) rfl (by kernel_rfl) (by kernel_rfl) (by kernel_rfl) (fun _ _ _ h => h) (Or.inl ⟨by rfl, ?_⟩) (by assumption) ?_
      rotate_left 1
      · intro W' hSw
        obtain ⟨hS1, hS2⟩ := hSw
        go_simp
        try with_reducible rfl
      try simp only [Act.put, List.setIfInBounds_toArray, List.set_cons_zero, List.set_cons_succ]
      refine wpAnyH_take (i := 15) (oi := ⟨_, _, _, _, _, _⟩) (v := ?_) rfl (by kernel_rfl) (by kernel_rfl) (by kernel_rfl) (fun _ _ _ h => h) (Or.inl ⟨by rfl, ?_⟩) (by assumption) ?_
      rotate_left 1
      · intro W' hSw
        obtain ⟨hS1, hS2⟩ := hSw
        go_simp
        try with_reducible rfl
      try simp only [Act.put, List.setIfInBounds_toArray, List.set_cons_zero, List.set_cons_succ]
      refine wpAnyH_take (i := 16) (oi := ⟨_, _, _, _, _, _⟩) (v := ?_) rfl (by kernel_rfl) (by kernel_rfl) (by kernel_rfl) (fun _ _ _ h => h) (Or.inl ⟨by rfl, ?_⟩) (by assumption) ?_
      rotate_left 1
      · intro W' hSw
        obtain ⟨hS1, hS2⟩ := hSw
        go_simp
        try with_reducible rfl
      try simp only [Act.put, List.setIfInBounds_toArray, List.set_cons_zero, List.set_cons_succ]
      refine wpAnyH_take (i := 17) (oi := ⟨_, _, _, _, _, _⟩) (v := ?_) rfl (by kernel_rfl) (by kernel_rfl) (by kernel_rfl) (fun _ _ _ h => h) (Or.inl ⟨by rfl, ?_⟩) (by assumption) ?_
      rotate_left 1
      · intro W' hSw
        obtain ⟨hS1, hS2⟩ := hSw
        go_simp
        try with_reducible rfl
      try simp only [Act.put, List.setIfInBounds_toArray, List.set_cons_zero, List.set_cons_succ]
      refine wpAnyH_take (i := 18) (oi := ⟨_, _, _, _, _, _⟩) (v := ?_) rfl (by kernel_rfl) (by kernel_rfl) (by kernel_rfl) (fun _ _ _ h => h) (Or.inl ⟨by rfl, ?_⟩) (by assumption) ?_
      rotate_left 1
      · intro W' hSw
        obtain ⟨hS1, hS2⟩ := hSw
        go_simp
        try with_reducible rfl
      try simp only [Act.put, List.setIfInBounds_toArray, List.set_cons_zero, List.set_cons_succ]
      refine wpAnyH_take (i := 19) (oi := ⟨_, _, _, _, _, _⟩) (v := ?_) rfl (by kernel_rfl) (by kernel_rfl) (by kernel_rfl) (fun _ _ _ h => h) (Or.inl ⟨by rfl, ?_⟩) (by assumption) ?_
      rotate_left 1
      · intro W' hSw
        obtain ⟨hS1, hS2⟩ := hSw
        go_simp
        try with_reducible rfl
      try simp only [Act.put, List.setIfInBounds_toArray, List.set_cons_zero, List.set_cons_succ]
      refine wpAnyH_take (i := 20) (oi := ⟨_, _, _, _, _, _⟩) (v := ?_) rfl (by kernel_rfl) (by kernel_rfl) (by kernel_rfl) (fun _ _ _ h => h) (Or.inl ⟨by rfl, ?_⟩) (by assumption) ?_
      rotate_left 1
      · intro W' hSw
        obtain ⟨hS1, hS2⟩ := hSw
        go_simp
        try with_reducible rfl
      try simp only [Act.put, List.setIfInBounds_toArray, List.set_cons_zero, List.set_cons_succ]
      refine wpAnyH_take (i := 21) (oi := ⟨_, _, _, _, _, _⟩) (v := ?_) rfl (by kernel_rfl) (by kernel_rfl) (by kernel_rfl) (fun _ _ _ h => h) (Or.inl ⟨by rfl, ?_⟩) (by assumption) ?_
      rotate_left 1
      · intro W' hSw
        obtain ⟨hS1, hS2⟩ := hSw
        go_simp
        try with_reducible rfl
      try simp only [Act.put, List.setIfInBounds_toArray, List.set_cons_zero, List.set_cons_succ]
      refine wpAnyH_take (i := 22) (oi := ⟨_, _, _, _, _, _⟩) (v := ?_) rfl (by kernel_rfl) (by kernel_rfl) (by kernel_rfl) (fun _ _ _ h => h) (Or.inl ⟨by rfl, ?_⟩) (by assumption) ?_
      rotate_left 1
      · intro W' hSw
        obtain ⟨hS1, hS2⟩ := hSw
        go_simp
        try with_reducible rfl
      try simp only [Act.put, List.setIfInBounds_toArray, List.set_cons_zero, List.set_cons_succ]
      refine wpAnyH_take (i := 23) (oi := ⟨_, _, _, _, _, _⟩) (v := ?_) rfl (by kernel_rfl) (by kernel_rfl) (by kernel_rfl) (fun _ _ _ h => h) (Or.inl ⟨by rfl, ?_⟩) (by assumption) ?_
      rotate_left 1
      · intro W' hSw
        obtain ⟨hS1, hS2⟩ := hSw
        go_simp
        try with_reducible rfl
      try simp only [Act.put, List.setIfInBounds_toArray, List.set_cons_zero, List.set_cons_succ]
      refine wpAnyH_ready (rs := [24]) (by kernel_rfl) (by simp) ?_
      refine AllReadyH.cons (o := ⟨_, _, _, _, _, _⟩) rfl (fun K' hK => ?_) AllReadyH.nil
      go_simp
      refine hst.mono ?_
      rintro e Z2 ⟨rfl, kz, ez⟩
      dsimp only
      have hS2 := (show blk Z2 b7 = some RQ ∧ blk Z2 bm = some Ce from ⟨by rw [ez]; exact ((extends_drewN (ext_Ext (Ext.refl _)) kz).blk (blk_lt hb7')).trans hb7', by rw [ez]; exact ((extends_drewN (ext_Ext (Ext.refl _)) kz).blk (blk_lt hbm')).trans hbm'⟩)
      refine hK.out _ _ hS2 (fun hHeld => ?_)
      clear hK K'
      try simp only [Act.put, List.setIfInBounds_toArray, List.set_cons_zero, List.set_cons_succ]
      refine wpAnyH_take (i := 25) (oi := ⟨_, _, _, _, _, _⟩) (v := ?_) rfl (by kernel_rfl) (by kernel_rfl) (by kernel_rfl) (fun _ _ _ h => h) (Or.inl ⟨by rfl, ?_⟩) (by assumption) ?_
      rotate_left 1
      · intro W' hSw
        obtain ⟨hS1, hS2⟩ := hSw
        go_simp
        try with_reducible rfl
      try simp only [Act.put, List.setIfInBounds_toArray, List.set_cons_zero, List.set_cons_succ]
      refine wpAnyH_done (by kernel_rfl) ?_ _
      clear hHeld
      have HW2 : Hid (WW Z2) := by show WW Z2; rw [ez]; exact HGW.out HWD.out (extends_drewN (ext_Ext (Ext.refl _)) kz)
      clear ez hS2
      cases sb with
      | false =>
        go_wp2_with fail
        refine ⟨rfl, rfl, ?_⟩
        rw [HI3.out]
        refine ⟨⟨rfl, rfl, rfl, rfl, rfl, rfl⟩, HW2.out, fb, false, rfl, rfl, ?_⟩
        refine ⟨fun _ q s' h hB => ?_, fun e => by cases e⟩
        have h9 := (cap_upd HJ1.out.ls.inv HJ1.out.f HJ1.out.ag HRL.out hB h HD0.out (by rw [← HKQ.out]; exact HKW.out) HLM.out).1 (of_decide_eq_false HSB.out.symm)
        rw [HFF.out]
        exact ⟨fun e => absurd e h9, fun e => by cases e⟩
      | true =>
        go_wp2_with fail
        refine ⟨rfl, rfl, ?_⟩
        rw [HI3.out]
        refine ⟨⟨rfl, rfl, rfl, rfl, rfl, rfl⟩, HW2.out, fb, true, rfl, rfl, ?_⟩
        exact ⟨(fun e => by cases e), fun _ => ⟨HDD.out, HKW.out, HLM.out, of_decide_eq_true HSB.out.symm, HFF.out⟩⟩
  clear HW
  intro f V2' hI
  rw [HI3.out] at hI
  obtain ⟨⟨f3, f4, f5, f6, f7, f8⟩, hW, fb, c, f9, f97, HF2⟩ := hI
  rw [zframe174, f3, f4, f5, f6, f7, f8, f9, f97]
  clear f3 f4 f5 f6 f7 f8 f9 f97
  have HW := hid_of hW
  clear hW HF1
  go_upto_if 97 with fail
  obtain ⟨I4, hI4⟩ : ∃ I : (Nat → Value) → World → Prop, I = (fun f V' => c8C bs bm b7 (some ⟨br, 0, none⟩) N Cp i dc f ∧ WW V' ∧ ∃ fb, f 9 = .bool fb ∧ Hid (zFU s raw fb)) := ⟨_, rfl⟩
  have HI4 := hid_of hI4
  clear hI4
  refine wp_cut_f 174 I4 ?_ ?_
  · cases c with
    | false =>
      have HF3 : Hid (zFU s raw fb) := HF2.out.1 rfl
      clear HF2
      go_wp2_with fail
      refine ⟨rfl, rfl, ?_⟩
      rw [HI4.out]
      exact ⟨⟨rfl, rfl, rfl, rfl, rfl, rfl⟩, HW.out, fb, rfl, HF3⟩
    | true =>
      obtain ⟨hd0, hkw, hlm, hck, hfb⟩ := HF2.out.2 rfl
      have HD0 : Hid ((decF raw).1 = 0) := by show _ = _; rw [← HDC.out]; exact hd0
      have HKW : Hid ((decF raw).2.kind = 2 ∨ (decF raw).2.kind = 3 ∨ (decF raw).2.kind = 4) := by show _ ∨ _; rw [← HKQ.out]; exact hkw
      have HFB1 := hid_of hfb
      have HLM := hid_of hlm
      have HCK := hid_of hck
      obtain ⟨O1, hJ1, hRq1, hb7⟩ := HWW.out _ HW.out
      obtain ⟨Ce, fa, fc, hMo⟩ := hJ1.mo
      have hbm := hMo.cell
      have hb7' : blk V2'.drew b7 = some RQ := hb7
      have hbm' : blk V2'.drew bm = some Ce := hbm
      have HJ1 := hid_of hJ1
      have HMO := hid_of hMo
      have HCU : Hid (∀ q s', RepB q → svR s raw q s' → _) := fun q s' hB h => (cap_upd hJ1.ls.inv hJ1.f hJ1.ag HRL.out (q := q) (s' := s') hB h HD0.out HKW.out hlm).2 hck
      have hMI := hJ1.ag.msi hJ1.ls.inv hlm
      have hwf := decF_wf HRL.out HD0.out
      have hbd := decF_bd HD0.out HRL.out
      have hIt := hRq1.2.2.2.2.1
      have hin5 : qn ≤ 255 := by rw [← hIt.len]; exact hwf.len
      have h4 : ∀ it ∈ (decF raw).2.items, it.2.2.length ≤ 4 ∧ 0 ≤ it.2.1 ∧ it.2.1 ≤ 255 := fun it hit => ⟨(hwf.its it hit).2.1, (hwf.its it hit).1, hbd.1 it hit⟩
      have hdx1 : V2'.Extends V2'.drew := extends_drewN (ext_Ext (Ext.refl _)) 1
      have kc2 : 2 < Ce.length := by rw [hMo.len]; omega
      have kc6 : 6 < Ce.length := by rw [hMo.len]; omega
      have c6 := hMo.fs
      obtain ⟨fn, efn⟩ : ∃ fn, fn = m.F.length := ⟨_, rfl⟩
      rw [← efn] at c6
      have hN64 : fn ≤ 64 := by rw [efn, hMI.len]; exact hMI.pg.g.pok.nD
      have hfnp : fn = m.p.preds.length := by rw [efn]; exact hMI.len
      have hcheck := ckL_none hck
      have hFc := hMo.fc hlm
      rw [← efn] at hFc
      have haf := after_any (lab O1 V2'.heap.size .no) (lab_8 hJ1.h8 _) V2'.drew fa fn fc m.F (hFc.sub (core_grow hdx1)) hN64 (fun M hM => Nat.le_trans (hMI.cap M hM) (by decide)) hMI.r4 qa qn qc (decF raw).2.items (hIt.sub (core_grow hdx1)) (by omega) (fun it hit => by
        have h9 := hcheck it hit
        have h1 := h4 it hit
        refine ⟨h1.1, h1.2.1, ?_⟩
        unfold cuF at h9
        by_cases hc : m.p.preds.length ≤ it.2.1.toNat
        · rw [if_pos hc] at h9; cases h9
        · omega)
      obtain ⟨cd, ecd⟩ : ∃ cd, cd = (aftF m.F 0 (decF raw).2.items).1 := ⟨_, rfl⟩
      obtain ⟨ix, eix⟩ : ∃ ix, ix = (aftF m.F 0 (decF raw).2.items).2.1 := ⟨_, rfl⟩
      obtain ⟨F', eF'⟩ : ∃ F', F' = (aftF m.F 0 (decF raw).2.items).2.2 := ⟨_, rfl⟩
      unfold AfPost at haf
      rw [← ecd, ← eix, ← eF'] at haf
      have HCD := hid_of ecd
      have HF' := hid_of eF'
      have HFN := hid_of efn
      have HFNP := hid_of hfnp
      have HMI := hid_of hMI
      have H4 := hid_of h4
      have HIT := hid_of hIt
      have HFC := hid_of hFc
      have HWF := hid_of hwf
      clear hd0 hkw hlm hck hfb hJ1 hRq1 hMo hMI hwf hbd hIt h4 efn hfnp hcheck hFc ecd eix eF' hdx1 HF2
      go_upto_region 17 with fail
      repeat go_step
      refine wp_region_held_drew (S := fun W' => blk W' b7 = some RQ ∧ blk W' bm = some Ce) (by kernel_rfl) ⟨hb7, hbm⟩ (fun hHeld => ?_)
      refine wpAnyH_take (i := 0) (oi := ⟨_, _, _, _, _, _⟩) (v := ?_) rfl (by kernel_rfl) (by kernel_rfl) (by kernel_rfl) (fun _ _ _ h => h) (Or.inl ⟨by rfl, ?_⟩) (by assumption) ?_
      rotate_left 1
      · intro W' hSw
        obtain ⟨hS1, hS2⟩ := hSw
        go_simp
        try with_reducible rfl
      try simp only [Act.put, List.setIfInBounds_toArray, List.set_cons_zero, List.set_cons_succ]
      refine wpAnyH_take (i := 1) (oi := ⟨_, _, _, _, _, _⟩) (v := ?_) rfl (by kernel_rfl) (by kernel_rfl) (by kernel_rfl) (fun _ _ _ h => h) (Or.inl ⟨by rfl, ?_⟩) (by assumption) ?_
      rotate_left 1
      · intro W' hSw
        obtain ⟨hS1, hS2⟩ := hSw
        go_simp
        try with_reducible rfl
      try simp only [Act.put, List.setIfInBounds_toArray, List.set_cons_zero, List.set_cons_succ]
      refine wpAnyH_take (i := 2) (oi := ⟨_, _, _, _, _, _⟩) (v := ?_) rfl (by kernel_rfl) (by kernel_rfl) (by kernel_rfl) (fun _ _ _ h => h) (Or.inl ⟨by rfl, ?_⟩) (by assumption) ?_
      rotate_left 1
      · intro W' hSw
        obtain ⟨hS1, hS2⟩ := hSw
        go_simp
        try with_reducible rfl
      try simp only [Act.put, List.setIfInBounds_toArray, List.set_cons_zero, List.set_cons_succ]
      refine wpAnyH_take (i := 3) (oi := ⟨_, _, _, _, _, _⟩) (v := ?_) rfl (by kernel_rfl) (by kernel_rfl) (by kernel_rfl) (fun _ _ _ h => h) (Or.inl ⟨by rfl, ?_⟩) (by assumption) ?_
      rotate_left 1
      · intro W' hSw
        obtain ⟨hS1, hS2⟩ := hSw
        go_simp
        try with_reducible rfl
      try simp only [Act.put, List.setIfInBounds_toArray, List.set_cons_zero, List.set_cons_succ]
      refine wpAnyH_take (i := 4) (oi := ⟨_, _, _, _, _, _⟩) (v := ?_) rfl (by kernel_rfl) (by kernel_rfl) (by kernel_rfl) (fun _ _ _ h => h) (Or.inl ⟨by rfl, ?_⟩) (by assumption) ?_
      rotate_left 1
      · intro W' hSw
        obtain ⟨hS1, hS2⟩ := hSw
        go_simp
        try with_reducible rfl
      try simp only [Act.put, List.setIfInBounds_toArray, List.set_cons_zero, List.set_cons_succ]
      refine wpAnyH_take (i := 5) (oi := ⟨_, _, _, _, _, _⟩) (v := ?_) rfl (by kernel_rfl) (by kernel_rfl) (by kernel_rfl) (fun _ _ _ h => h) (Or.inl ⟨by rfl, ?_⟩) (by assumption) ?_
      rotate_left 1
      · intro W' hSw
        obtain ⟨hS1, hS2⟩ := hSw
        go_simp
        try with_reducible rfl
      try simp only [Act.put, List.setIfInBounds_toArray, List.set_cons_zero, List.set_cons_succ]
      refine wpAnyH_ready (rs := [6]) (by kernel_rfl) (by simp) ?_
      refine AllReadyH.cons (o := ⟨_, _, _, _, _, _⟩) rfl (fun K' hK => ?_) AllReadyH.nil
      go_simp
      refine haf.mono ?_
      rintro e V3' ⟨a5, m5, c5, rfl, hx5, hz5⟩
      dsimp only
      have hS3 := (show blk V3' b7 = some RQ ∧ blk V3' bm = some Ce from ⟨(hx5.blk (blk_lt hb7')).trans hb7', (hx5.blk (blk_lt hbm')).trans hbm'⟩)
      refine hK.out _ _ hS3 (fun hHeld => ?_)
      clear hK K'
      try simp only [Act.put, List.setIfInBounds_toArray, List.set_cons_zero, List.set_cons_succ]
      refine wpAnyH_take (i := 7) (oi := ⟨_, _, _, _, _, _⟩) (v := ?_) rfl (by kernel_rfl) (by kernel_rfl) (by kernel_rfl) (fun _ _ _ h => h) (Or.inl ⟨by rfl, ?_⟩) (by assumption) ?_
      rotate_left 1
      · intro W' hSw
        obtain ⟨hS1, hS2⟩ := hSw
        go_simp
        try with_reducible rfl
      try simp only [Act.put, List.setIfInBounds_toArray, List.set_cons_zero, List.set_cons_succ]
      refine wpAnyH_take (i := 8) (oi := ⟨_, _, _, _, _, _⟩) (v := ?_) rfl (by kernel_rfl) (by kernel_rfl) (by kernel_rfl) (fun _ _ _ h => h) (Or.inl ⟨by rfl, ?_⟩) (by assumption) ?_
      rotate_left 1
      · intro W' hSw
        obtain ⟨hS1, hS2⟩ := hSw
        go_simp
        try with_reducible rfl
      try simp only [Act.put, List.setIfInBounds_toArray, List.set_cons_zero, List.set_cons_succ]
      refine wpAnyH_take (i := 9) (oi := ⟨_, _, _, _, _, _⟩) (v := ?_) rfl (by kernel_rfl) (by kernel_rfl) (by kernel_rfl) (fun _ _ _ h => h) (Or.inl ⟨by rfl, ?_⟩) (by assumption) ?_
      rotate_left 1
      · intro W' hSw
        obtain ⟨hS1, hS2⟩ := hSw
        go_simp
        try with_reducible rfl
      try simp only [Act.put, List.setIfInBounds_toArray, List.set_cons_zero, List.set_cons_succ]
      refine wpAnyH_take (i := 10) (oi := ⟨_, _, _, _, _, _⟩) (v := ?_) rfl (by kernel_rfl) (by kernel_rfl) (by kernel_rfl) (fun _ _ _ h => h) (Or.inl ⟨by rfl, ?_⟩) (by assumption) ?_
      rotate_left 1
      · intro W' hSw
        obtain ⟨hS1, hS2⟩ := hSw
        go_simp
        try with_reducible rfl
      try simp only [Act.put, List.setIfInBounds_toArray, List.set_cons_zero, List.set_cons_succ]
      refine wpAnyH_take (i := 11) (oi := ⟨_, _, _, _, _, _⟩) (v := ?_) rfl (by kernel_rfl) (by kernel_rfl) (by kernel_rfl) (fun _ _ _ h => h) (Or.inl ⟨by rfl, ?_⟩) (by assumption) ?_
      rotate_left 1
      · intro W' hSw
        obtain ⟨hS1, hS2⟩ := hSw
        go_simp
        try with_reducible rfl
      try simp only [Act.put, List.setIfInBounds_toArray, List.set_cons_zero, List.set_cons_succ]
      refine wpAnyH_take (i := 12) (oi := ⟨_, _, _, _, _, _⟩) (v := ?_) rfl (by kernel_rfl) (by kernel_rfl) (by kernel_rfl) (fun _ _ _ h => h) (Or.inl ⟨by rfl, ?_⟩) (by assumption) ?_
      rotate_left 1
      · intro W' hSw
        obtain ⟨hS1, hS2⟩ := hSw
        go_simp
        try with_reducible rfl
      try simp only [Act.put, List.setIfInBounds_toArray, List.set_cons_zero, List.set_cons_succ]
      refine wpAnyH_take (i := 13) (oi := ⟨_, _, _, _, _, _⟩) (v := ?_) rfl (by kernel_rfl) (by kernel_rfl) (by kernel_rfl) (fun _ _ _ h => h) (Or.inl ⟨by rfl, ?_⟩) (by assumption) ?_
      rotate_left 1
      · intro W' hSw
        obtain ⟨hS1, hS2⟩ := hSw
        go_simp
        try with_reducible rfl
      try simp only [Act.put, List.setIfInBounds_toArray, List.set_cons_zero, List.set_cons_succ]
      refine wpAnyH_done (by kernel_rfl) ?_ _
      clear hHeld haf
      have HX3 : Hid (V2'.Extends V3') := (extends_drewN (ext_Ext (Ext.refl _)) 1).trans hx5
      have HW3 : Hid (WW V3') := HGW.out HW.out HX3.out
      have HZ5 := hid_of hz5
      obtain ⟨hb73, hbm3⟩ := hS3
      have hb73' : blk V3'.drew b7 = some RQ := hb73
      have hbm3' : blk V3'.drew bm = some Ce := hbm3
      have hxd : V2'.Extends V3'.drew := extends_drewN HX3.out 1
      have hwan := wanted_any V3'.drew bm 2 m.p ((HMO.out.at.po HLM.out).sub (Sub.ext hxd)) fa fn fc m.F ((HFC.out.sub (Sub.core _ _)).sub (Sub.ext hxd)) (Nat.le_trans HMI.out.pg.g.pok.nP (by decide)) (by rw [← HFN.out]; exact hN64) (fun M hM => ⟨Nat.le_trans (HMI.out.cap M hM) (by decide), HMI.out.r4 M hM⟩) qa qn qc (decF raw).2.items ((HIT.out.sub (Sub.core _ _)).sub (Sub.ext hxd)) (by omega) (fun it hit => (H4.out it hit).1)
      obtain ⟨wl, ewl⟩ : ∃ wl, wl = (wanF m.p.pool m.F (decF raw).2.items).length := ⟨_, rfl⟩
      unfold CnPost at hwan
      rw [← ewl] at hwan
      have HWL := hid_of ewl
      clear ewl hxd hz5 hx5 hb7 hbm hb7' hbm'
      go_upto_region 18 with fail
      repeat go_step
      refine wp_region_held_drew (S := fun W' => blk W' b7 = some RQ ∧ blk W' bm = some Ce) (by kernel_rfl) ⟨hb73, hbm3⟩ (fun hHeld => ?_)
      refine wpAnyH_take (i := 0) (oi := ⟨_, _, _, _, _, _⟩) (v := ?_) rfl (by kernel_rfl) (by kernel_rfl) (by kernel_rfl) (fun _ _ _ h => h) (Or.inl ⟨by rfl, ?_⟩) (by assumption) ?_
      rotate_left 1
      · intro W' hSw
        obtain ⟨hS1, hS2⟩ := hSw
        go_simp
        try with_reducible rfl
      try simp only [Act.put, List.setIfInBounds_toArray, List.set_cons_zero, List.set_cons_succ]
      refine wpAnyH_take (i := 1) (oi := ⟨_, _, _, _, _, _⟩) (v := ?_) rfl (by kernel_rfl) (by kernel_rfl) (by kernel_rfl) (fun _ _ _ h => h) (Or.inl ⟨by rfl, ?_⟩) (by assumption) ?_
      rotate_left 1
      · intro W' hSw
        obtain ⟨hS1, hS2⟩ := hSw
        go_simp
        try with_reducible rfl
      try simp only [Act.put, List.setIfInBounds_toArray, List.set_cons_zero, List.set_cons_succ]
      refine wpAnyH_take (i := 2) (oi := ⟨_, _, _, _, _, _⟩) (v := ?_) rfl (by kernel_rfl) (by kernel_rfl) (by kernel_rfl) (fun _ _ _ h => h) (Or.inl ⟨by rfl, ?_⟩) (by assumption) ?_
      rotate_left 1
      · intro W' hSw
        obtain ⟨hS1, hS2⟩ := hSw
        go_simp
        try with_reducible rfl
      try simp only [Act.put, List.setIfInBounds_toArray, List.set_cons_zero, List.set_cons_succ]
      refine wpAnyH_take (i := 3) (oi := ⟨_, _, _, _, _, _⟩) (v := ?_) rfl (by kernel_rfl) (by kernel_rfl) (by kernel_rfl) (fun _ _ _ h => h) (Or.inl ⟨by rfl, ?_⟩) (by assumption) ?_
      rotate_left 1
      · intro W' hSw
        obtain ⟨hS1, hS2⟩ := hSw
        go_simp
        try with_reducible rfl
      try simp only [Act.put, List.setIfInBounds_toArray, List.set_cons_zero, List.set_cons_succ]
      refine wpAnyH_take (i := 4) (oi := ⟨_, _, _, _, _, _⟩) (v := ?_) rfl (by kernel_rfl) (by kernel_rfl) (by kernel_rfl) (fun _ _ _ h => h) (Or.inl ⟨by rfl, ?_⟩) (by assumption) ?_
      rotate_left 1
      · intro W' hSw
        obtain ⟨hS1, hS2⟩ := hSw
        go_simp
        try with_reducible rfl
      try simp only [Act.put, List.setIfInBounds_toArray, List.set_cons_zero, List.set_cons_succ]
      refine wpAnyH_take (i := 5) (oi := ⟨_, _, _, _, _, _⟩) (v := ?_) rfl (by kernel_rfl) (by kernel_rfl) (by kernel_rfl) (fun _ _ _ h => h) (Or.inl ⟨by rfl, ?_⟩) (by assumption) ?_
      rotate_left 1
      · intro W' hSw
        obtain ⟨hS1, hS2⟩ := hSw
        go_simp
        try with_reducible rfl
      try simp only [Act.put, List.setIfInBounds_toArray, List.set_cons_zero, List.set_cons_succ]
      refine wpAnyH_take (i := 6) (oi := ⟨_, _, _, _, _, _⟩) (v := ?_) rfl (by kernel_rfl) (by kernel_rfl) (by kernel_rfl) (fun _ _ _ h => h) (Or.inl ⟨by rfl, ?_⟩) (by assumption) ?_
      rotate_left 1
      · intro W' hSw
        obtain ⟨hS1, hS2⟩ := hSw
        go_simp
        try with_reducible rfl
      try simp only [Act.put, List.setIfInBounds_toArray, List.set_cons_zero, List.set_cons_succ]
      refine wpAnyH_take (i := 7) (oi := ⟨_, _, _, _, _, _⟩) (v := ?_) rfl (by kernel_rfl) (by kernel_rfl) (by kernel_rfl) (fun _ _ _ h => h) (Or.inl ⟨by rfl, ?_⟩) (by assumption) ?_
      rotate_left 1
      · intro W' hSw
        obtain ⟨hS1, hS2⟩ := hSw
        go_simp
        try with_reducible rfl
      try simp only [Act.put, List.setIfInBounds_toArray, List.set_cons_zero, List.set_cons_succ]
      refine wpAnyH_take (i := 8) (oi := ⟨_, _, _, _, _, _⟩) (v := ?_) rfl (by kernel_rfl) (by kernel_rfl) (by kernel_rfl) (fun _ _ _ h => h) (Or.inl ⟨by rfl, ?_⟩) (by assumption) ?_
      rotate_left 1
      · intro W' hSw
        obtain ⟨hS1, hS2⟩ := hSw
        go_simp
        try with_reducible rfl
      try simp only [Act.put, List.setIfInBounds_toArray, List.set_cons_zero, List.set_cons_succ]
      refine wpAnyH_ready (rs := [9]) (by kernel_rfl) (by simp) ?_
      refine AllReadyH.cons (o := ⟨_, _, _, _, _, _⟩) rfl (fun K' hK => ?_) AllReadyH.nil
      go_simp
      refine hwan.mono ?_
      rintro e V4' ⟨wa, wc, rfl, hO4⟩
      dsimp only
      have hS4 := (show blk V4' b7 = some RQ ∧ blk V4' bm = some Ce from ⟨(hO4.2.1.blk (blk_lt hb73')).trans hb73', (hO4.2.1.blk (blk_lt hbm3')).trans hbm3'⟩)
      refine hK.out _ _ hS4 (fun hHeld => ?_)
      clear hK K'
      try simp only [Act.put, List.setIfInBounds_toArray, List.set_cons_zero, List.set_cons_succ]
      refine wpAnyH_take (i := 10) (oi := ⟨_, _, _, _, _, _⟩) (v := ?_) rfl (by kernel_rfl) (by kernel_rfl) (by kernel_rfl) (fun _ _ _ h => h) (Or.inl ⟨by rfl, ?_⟩) (by assumption) ?_
      rotate_left 1
      · intro W' hSw
        obtain ⟨hS1, hS2⟩ := hSw
        go_simp
        try with_reducible rfl
      try simp only [Act.put, List.setIfInBounds_toArray, List.set_cons_zero, List.set_cons_succ]
      refine wpAnyH_take (i := 11) (oi := ⟨_, _, _, _, _, _⟩) (v := ?_) rfl (by kernel_rfl) (by kernel_rfl) (by kernel_rfl) (fun _ _ _ h => h) (Or.inl ⟨by rfl, ?_⟩) (by assumption) ?_
      rotate_left 1
      · intro W' hSw
        obtain ⟨hS1, hS2⟩ := hSw
        go_simp
        try with_reducible rfl
      try simp only [Act.put, List.setIfInBounds_toArray, List.set_cons_zero, List.set_cons_succ]
      refine wpAnyH_done (by kernel_rfl) ?_ _
      clear hHeld hwan
      have HX34 : Hid (V3'.Extends V4') := (extends_drewN (ext_Ext (Ext.refl _)) 1).trans hO4.2.1
      have HX4 : Hid (V2'.Extends V4') := HX3.out.trans HX34.out
      clear hO4 hb73 hbm3 hb73' hbm3'
      by_cases hw : 256 < wl
      · have hw1 : (256 : Int) < (wl : Int) := by omega
        go_wp2_with fail
        refine ⟨rfl, rfl, ?_⟩
        rw [HI4.out]
        refine ⟨⟨rfl, rfl, rfl, rfl, rfl, rfl⟩, HGW.out HW.out HX4.out, true, rfl, ?_⟩
        exact fun q s' h hB => ⟨fun _ => rfl, fun _ => (HCU.out q s' hB h).1 (by rw [← HWL.out]; exact hw)⟩
      have hw1 : ¬ (256 : Int) < (wl : Int) := by omega
      by_cases hc0 : cd = 0
      rotate_left 1
      · have hb1 : (cd == 0) = false := by simp [hc0]
        go_wp2_with fail
        refine ⟨rfl, rfl, ?_⟩
        rw [HI4.out]
        refine ⟨⟨rfl, rfl, rfl, rfl, rfl, rfl⟩, HGW.out HW.out HX4.out, fb, rfl, ?_⟩
        refine fun q s' h hB => ?_
        have h9 := ((HCU.out q s' hB h).2 (by rw [← HWL.out]; omega)).1 (by rw [← HCD.out]; exact hc0)
        rw [HFB1.out]
        exact ⟨fun e => absurd e h9, fun e => by cases e⟩
      have hz := HZ5.out hc0
      obtain ⟨bo, O5, ea5, em5, ec5, hF'l, hR5⟩ := hz
      rw [ea5, em5, ec5]
      have hC0 : (aftF m.F 0 (decF raw).2.items).1 = 0 := by rw [← HCD.out]; exact hc0
      obtain ⟨z1, z2, z3⟩ := aftF_bd (decF raw).2.items m.F 0 512 HMI.out.cap HMI.out.r4 (fun it hit => (H4.out it hit).1) hC0
      rw [← HF'.out] at z1 z2 z3
      have hE : PfE V4' bm 2 m.p (some ⟨bo, 0, none⟩) fn F' := ⟨(HMO.out.at.po HLM.out).sub (Sub.ext HX4.out), by have h9 := hR5.facts; rw [hF'l] at h9; exact h9.sub (Sub.ext HX34.out), by rw [hF'l]; exact HFNP.out, by rw [hF'l]; exact hN64, Nat.le_trans HMI.out.pg.g.pok.nR (by decide), by have := HMI.out.pg.g.pok.st.2; omega, fun r hr => by rw [hF'l, HFNP.out]; exact HMI.out.pg.g.fit hr, Nat.le_trans HMI.out.pg.g.pok.nP (by decide), fun M hM => by have := z2 M hM; have := HWF.out.len; omega, z3, by
        have h9 := after_con (pool := m.p.pool) hC0
        rw [← HF'.out, ← HWL.out] at h9
        omega⟩
      have hpf := perfectN_any V4' bm 2 m.p (some ⟨bo, 0, none⟩) fn fn F' hE
      have HFL := hid_of hF'l
      have HC0 := hid_of hC0
      clear hR5 hE z1 z2 z3 hC0 HZ5 hF'l HCD ea5 em5 ec5 hS4
      subst hc0
      go_wp2_with fail
      refine hpf.mono ?_
      rintro e V6 ⟨bp, ta, tn, tc, F1, T1, rfl, hPf, hF1l, hx6, hFA, -, -, -, -⟩
      dsimp only
      rw [HFL.out] at hFA ⊢
      have hov := overN_any V6 (some ⟨bp, 0, none⟩) fn fn (by omega) F1 hFA
      obtain ⟨ov, eov⟩ : ∃ ov, ov = overN F1 := ⟨_, rfl⟩
      rw [← eov] at hov
      have HOV := hid_of eov
      have HX6 : Hid (V2'.Extends V6) := HX4.out.trans hx6
      have HPF := hid_of hPf
      clear hpf hPf hF1l hx6 hFA eov
      go_wp2_with fail
      refine hov.mono ?_
      rintro e V7 ⟨rfl, e7⟩
      subst e7
      dsimp only
      clear hov
      go_wp2_with fail
      refine ⟨rfl, rfl, ?_⟩
      rw [HI4.out]
      refine ⟨⟨rfl, rfl, rfl, rfl, rfl, rfl⟩, HGW.out HW.out HX6.out, ov, rfl, ?_⟩
      refine fun q s' h hB => ?_
      have h9 := ((HCU.out q s' hB h).2 (by rw [← HWL.out]; omega)).2 HC0.out F1 T1 (by rw [← HF'.out]; exact HPF.out)
      rw [HOV.out]
      exact h9
  clear HW HF2
  intro f Vx hI
  rw [HI4.out] at hI
  obtain ⟨⟨f3, f4, f5, f6, f7, f8⟩, hW, fb, f9, HFU0⟩ := hI
  rw [zframe174, f3, f4, f5, f6, f7, f8, f9]
  clear f3 f4 f5 f6 f7 f8 f9
  obtain ⟨Ox, hJx, hRqx, hb7x⟩ := HWW.out _ hW
  have HJx := hid_of hJx
  have HFU : Hid (∀ q s', svR s raw q s' → RepB q → (q.code = 16 ↔ fb = true)) := HFU0.out
  clear hW hJx hRqx hb7x HFU0 HWW HGW q0 q1 q2 ql0 ql1 ql2 HDC HKQ
  go_upto_region 23 with fail
  have hbrx := (HJx.out.ls.blk HBR.out.1 HBR.out.2).1
  have hsv := HJx.out.ls.serve (by omega) ⟨xa, xn, xc⟩ raw (HDX.out.sub HJx.out.ls.sub) HRL.out
  dsimp only at hsv
  go_wp2_with fail
  refine hsv.mono ?_
  rintro e Y1 ⟨ra, rn, rc, q, s', P1, g1, rfl, hsr, hRB, hK, hL1, hBs, hrc1, hrc2⟩
  dsimp only
  have hkc := svR.k (s' := s') HJx.out.ls.inv.ins HRL.out hsr.choose_spec.1
  obtain ⟨kd, hkd⟩ : ∃ kd : Nat, q.kind = (kd : Int) := ⟨q.kind.toNat, by have := hkc.1; omega⟩
  obtain ⟨cd, hcd⟩ : ∃ cd : Nat, q.code = (cd : Int) := ⟨q.code.toNat, by have := hkc.2.1; omega⟩
  obtain ⟨rb, ro, RC, rfl, w2, w3, w4, w5, w6⟩ := rep_two (hBs.sub (Sub.core _ _)) hkd hcd (by have := hkc.1; omega) (by have := hkc.2.1; omega)
  have hwc : IntKind.i64.wrap (cd : Int) = (cd : Int) := by
    have h1 := hkc.2.1
    rw [hcd] at h1
    rw [IntKind.wrap_i64]; omega
  have hfu := HFU.out q s' hsr hRB
  rw [hcd] at hfu
  have hro : ro < RC.length := by omega
  have hrn0 : (0 : Int) < (rn : Int) := by omega
  have hmod := HJx.out.model HRL.out hsr hK hL1 ⟨xa, xn, xc⟩ ((HDX.out.sub hL1.sub).sub (Sub.core _ _))
  dsimp only at hmod
  have hbr1 : blk Y1 br = some CR := (hL1.blk HBR.out.1 HBR.out.2).1
  have hcb : ((cd : Int) == 16) = fb := by
    cases fb with
    | true => simp; have := hfu.2 rfl; omega
    | false => simp; intro e; have h9 := hfu.1 (by omega); cases h9
  have hcb2 : (cd == 16) = fb := by rw [← hcb, Bool.eq_iff_iff]; simp; omega
  clear hsv hRB hK hL1 hBs hrc1 hrc2 hkc hkd hcd hfu w5 w6 hbrx HFU hsr
  go_wp2_with fail
  refine hmod.mono ?_
  rintro e V3 ⟨a3, n3, c3, m', O2, rfl, hJ2, hMv, hn3, hB3, hsub⟩
  dsimp only
  have HJ3 : Hid (JM Ob W1 bs bm (1000 + 10 * ((i + 1 : Nat) : Int)) s' m' O2 g1 V3.drew) := by
    rw [show (1000 : Int) + 10 * ((i + 1 : Nat) : Int) = 1000 + 10 * (i : Int) + 10 from by omega]
    exact hJ2.drewN 1
  have hum := use_mod HJ3.out.ls.inv HJ3.out.ag
  obtain ⟨Ce, fa, fc, hMo⟩ := HJ3.out.mo
  have hMA := hMo.at
  have hbm3 : blk V3.drew bm = some Ce := hMA.cell
  have hbm3' : blk V3 bm = some Ce := hMA.cell
  have hiu := inUse_any HJ3.out.ls.sv
  have kc0 : 0 < Ce.length := by rw [hMA.len]; omega
  have kc6 : 6 < Ce.length := by rw [hMA.len]; omega
  have cld := hMA.ld
  have cfs := hMA.fs
  obtain ⟨fn, efn⟩ : ∃ fn, fn = m'.F.length := ⟨_, rfl⟩
  rw [← efn] at cfs
  have HFN := hid_of efn
  have HMA := hid_of hMA
  have hul := hum.2
  obtain ⟨iu, eiu⟩ : ∃ iu, iu = inUse s' := ⟨_, rfl⟩
  rw [← eiu] at hul hiu
  have HIU := hid_of eiu
  have HUM := hid_of hum.1
  have hul1 : ¬ (256 : Int) < iu := by omega
  have hul2 : ¬ iu > 256 := by omega
  clear hmod hJ2 hMv hn3 hB3 hsub hum hMo hMA efn eiu hbr1 w2 w3 w4
  go_upto_region 26 with fail
  cases hlm : m'.ld with
  | false =>
    rw [hlm] at cld
    have HJN : Hid (∃ s m O g, JM Ob W1 bs bm (1000 + 10 * ((i + 1 : Nat) : Int)) s m O g V3.drew) := ⟨_, _, _, _, HJ3.out⟩
    clear hlm HUM HIU
    repeat go_step
    refine wp_region_held_drew (S := fun W' => blk W' bm = some Ce) (by kernel_rfl) hbm3' (fun hHeld => ?_)
    refine wpAnyH_take (i := 0) (oi := ⟨_, _, _, _, _, _⟩) (v := ?_) rfl (by kernel_rfl) (by kernel_rfl) (by kernel_rfl) (fun _ _ _ h => h) (Or.inl ⟨by rfl, ?_⟩) (by assumption) ?_
    rotate_left 1
    · intro W' hSw
      go_simp
      try with_reducible rfl
    try simp only [Act.put, List.setIfInBounds_toArray, List.set_cons_zero, List.set_cons_succ]
    refine wpAnyH_take (i := 1) (oi := ⟨_, _, _, _, _, _⟩) (v := ?_) rfl (by kernel_rfl) (by kernel_rfl) (by kernel_rfl) (fun _ _ _ h => h) (Or.inl ⟨by rfl, ?_⟩) (by assumption) ?_
    rotate_left 1
    · intro W' hSw
      go_simp
      try with_reducible rfl
    try simp only [Act.put, List.setIfInBounds_toArray, List.set_cons_zero, List.set_cons_succ]
    refine wpAnyH_take (i := 2) (oi := ⟨_, _, _, _, _, _⟩) (v := ?_) rfl (by kernel_rfl) (by kernel_rfl) (by kernel_rfl) (fun _ _ _ h => h) (Or.inl ⟨by rfl, ?_⟩) (by assumption) ?_
    rotate_left 1
    · intro W' hSw
      go_simp
      try with_reducible rfl
    try simp only [Act.put, List.setIfInBounds_toArray, List.set_cons_zero, List.set_cons_succ]
    refine wpAnyH_take (i := 3) (oi := ⟨_, _, _, _, _, _⟩) (v := ?_) rfl (by kernel_rfl) (by kernel_rfl) (by kernel_rfl) (fun _ _ _ h => h) (Or.inl ⟨by rfl, ?_⟩) (by assumption) ?_
    rotate_left 1
    · intro W' hSw
      go_simp
      try with_reducible rfl
    try simp only [Act.put, List.setIfInBounds_toArray, List.set_cons_zero, List.set_cons_succ]
    refine wpAnyH_take (i := 4) (oi := ⟨_, _, _, _, _, _⟩) (v := ?_) rfl (by kernel_rfl) (by kernel_rfl) (by kernel_rfl) (fun _ _ _ h => h) (Or.inl ⟨by rfl, ?_⟩) (by assumption) ?_
    rotate_left 1
    · intro W' hSw
      go_simp
      try with_reducible rfl
    try simp only [Act.put, List.setIfInBounds_toArray, List.set_cons_zero, List.set_cons_succ]
    refine wpAnyH_take (i := 5) (oi := ⟨_, _, _, _, _, _⟩) (v := undef) rfl (by kernel_rfl) (by kernel_rfl) (by kernel_rfl) (fun _ _ _ h => h) (Or.inr ⟨by rfl, rfl⟩) (by assumption) ?_
    try simp only [Act.put, List.setIfInBounds_toArray, List.set_cons_zero, List.set_cons_succ]
    refine wpAnyH_take (i := 6) (oi := ⟨_, _, _, _, _, _⟩) (v := undef) rfl (by kernel_rfl) (by kernel_rfl) (by kernel_rfl) (fun _ _ _ h => h) (Or.inr ⟨by rfl, rfl⟩) (by assumption) ?_
    try simp only [Act.put, List.setIfInBounds_toArray, List.set_cons_zero, List.set_cons_succ]
    refine wpAnyH_take (i := 7) (oi := ⟨_, _, _, _, _, _⟩) (v := undef) rfl (by kernel_rfl) (by kernel_rfl) (by kernel_rfl) (fun _ _ _ h => h) (Or.inr ⟨by rfl, rfl⟩) (by assumption) ?_
    try simp only [Act.put, List.setIfInBounds_toArray, List.set_cons_zero, List.set_cons_succ]
    refine wpAnyH_take (i := 8) (oi := ⟨_, _, _, _, _, _⟩) (v := undef) rfl (by kernel_rfl) (by kernel_rfl) (by kernel_rfl) (fun _ _ _ h => h) (Or.inr ⟨by rfl, rfl⟩) (by assumption) ?_
    try simp only [Act.put, List.setIfInBounds_toArray, List.set_cons_zero, List.set_cons_succ]
    refine wpAnyH_take (i := 9) (oi := ⟨_, _, _, _, _, _⟩) (v := undef) rfl (by kernel_rfl) (by kernel_rfl) (by kernel_rfl) (fun _ _ _ h => h) (Or.inr ⟨by rfl, rfl⟩) (by assumption) ?_
    try simp only [Act.put, List.setIfInBounds_toArray, List.set_cons_zero, List.set_cons_succ]
    refine wpAnyH_take (i := 10) (oi := ⟨_, _, _, _, _, _⟩) (v := undef) rfl (by kernel_rfl) (by kernel_rfl) (by kernel_rfl) (fun _ _ _ h => h) (Or.inr ⟨by rfl, rfl⟩) (by assumption) ?_
    try simp only [Act.put, List.setIfInBounds_toArray, List.set_cons_zero, List.set_cons_succ]
    refine wpAnyH_take (i := 11) (oi := ⟨_, _, _, _, _, _⟩) (v := undef) rfl (by kernel_rfl) (by kernel_rfl) (by kernel_rfl) (fun _ _ _ h => h) (Or.inr ⟨by rfl, rfl⟩) (by assumption) ?_
    try simp only [Act.put, List.setIfInBounds_toArray, List.set_cons_zero, List.set_cons_succ]
    refine wpAnyH_take (i := 12) (oi := ⟨_, _, _, _, _, _⟩) (v := undef) rfl (by kernel_rfl) (by kernel_rfl) (by kernel_rfl) (fun _ _ _ h => h) (Or.inr ⟨by rfl, rfl⟩) (by assumption) ?_
    try simp only [Act.put, List.setIfInBounds_toArray, List.set_cons_zero, List.set_cons_succ]
    refine wpAnyH_take (i := 13) (oi := ⟨_, _, _, _, _, _⟩) (v := undef) rfl (by kernel_rfl) (by kernel_rfl) (by kernel_rfl) (fun _ _ _ h => h) (Or.inr ⟨by rfl, rfl⟩) (by assumption) ?_
    try simp only [Act.put, List.setIfInBounds_toArray, List.set_cons_zero, List.set_cons_succ]
    refine wpAnyH_take (i := 14) (oi := ⟨_, _, _, _, _, _⟩) (v := undef) rfl (by kernel_rfl) (by kernel_rfl) (by kernel_rfl) (fun _ _ _ h => h) (Or.inr ⟨by rfl, rfl⟩) (by assumption) ?_
    try simp only [Act.put, List.setIfInBounds_toArray, List.set_cons_zero, List.set_cons_succ]
    refine wpAnyH_take (i := 15) (oi := ⟨_, _, _, _, _, _⟩) (v := undef) rfl (by kernel_rfl) (by kernel_rfl) (by kernel_rfl) (fun _ _ _ h => h) (Or.inr ⟨by rfl, rfl⟩) (by assumption) ?_
    try simp only [Act.put, List.setIfInBounds_toArray, List.set_cons_zero, List.set_cons_succ]
    refine wpAnyH_take (i := 16) (oi := ⟨_, _, _, _, _, _⟩) (v := undef) rfl (by kernel_rfl) (by kernel_rfl) (by kernel_rfl) (fun _ _ _ h => h) (Or.inr ⟨by rfl, rfl⟩) (by assumption) ?_
    try simp only [Act.put, List.setIfInBounds_toArray, List.set_cons_zero, List.set_cons_succ]
    refine wpAnyH_take (i := 17) (oi := ⟨_, _, _, _, _, _⟩) (v := ?_) rfl (by kernel_rfl) (by kernel_rfl) (by kernel_rfl) (fun _ _ _ h => h) (Or.inl ⟨by rfl, ?_⟩) (by assumption) ?_
    rotate_left 1
    · intro W' hSw
      go_simp
      try with_reducible rfl
    try simp only [Act.put, List.setIfInBounds_toArray, List.set_cons_zero, List.set_cons_succ]
    refine wpAnyH_take (i := 18) (oi := ⟨_, _, _, _, _, _⟩) (v := ?_) rfl (by kernel_rfl) (by kernel_rfl) (by kernel_rfl) (fun _ _ _ h => h) (Or.inl ⟨by rfl, ?_⟩) (by assumption) ?_
    rotate_left 1
    · intro W' hSw
      go_simp
      try with_reducible rfl
    try simp only [Act.put, List.setIfInBounds_toArray, List.set_cons_zero, List.set_cons_succ]
    refine wpAnyH_take (i := 19) (oi := ⟨_, _, _, _, _, _⟩) (v := ?_) rfl (by kernel_rfl) (by kernel_rfl) (by kernel_rfl) (fun _ _ _ h => h) (Or.inl ⟨by rfl, ?_⟩) (by assumption) ?_
    rotate_left 1
    · intro W' hSw
      go_simp
      try with_reducible rfl
    try simp only [Act.put, List.setIfInBounds_toArray, List.set_cons_zero, List.set_cons_succ]
    refine wpAnyH_ready (rs := [20]) (by kernel_rfl) (by simp) ?_
    refine AllReadyH.cons (o := ⟨_, _, _, _, _, _⟩) rfl (fun K' hK => ?_) AllReadyH.nil
    go_simp
    refine hiu.mono ?_
    rintro e Z1 ⟨rfl, rfl⟩
    dsimp only
    refine hK.out _ _ hbm3 (fun hHeld => ?_)
    clear hK K'
    try simp only [Act.put, List.setIfInBounds_toArray, List.set_cons_zero, List.set_cons_succ]
    refine wpAnyH_take (i := 21) (oi := ⟨_, _, _, _, _, _⟩) (v := ?_) rfl (by kernel_rfl) (by kernel_rfl) (by kernel_rfl) (fun _ _ _ h => h) (Or.inl ⟨by rfl, ?_⟩) (by assumption) ?_
    rotate_left 1
    · intro W' hSw
      go_simp
      try with_reducible rfl
    try simp only [Act.put, List.setIfInBounds_toArray, List.set_cons_zero, List.set_cons_succ]
    refine wpAnyH_take (i := 22) (oi := ⟨_, _, _, _, _, _⟩) (v := ?_) rfl (by kernel_rfl) (by kernel_rfl) (by kernel_rfl) (fun _ _ _ h => h) (Or.inl ⟨by rfl, ?_⟩) (by assumption) ?_
    rotate_left 1
    · intro W' hSw
      go_simp
      try with_reducible rfl
    try simp only [Act.put, List.setIfInBounds_toArray, List.set_cons_zero, List.set_cons_succ]
    refine wpAnyH_done (by kernel_rfl) ?_ _
    clear hHeld hiu
    go_wp2_with fail
    refine ⟨rfl, rfl, ⟨rfl, rfl, rfl, i + 1, by omega, ?_, HJN⟩, ?_⟩
    · show Value.int .i64 _ = _
      go_num
    · show N - (intOf (Value.int .i64 _)).toNat < N - (intOf (F 6)).toNat
      rw [H6.out]
      simp [intOf]; omega
  | true =>
    rw [hlm] at cld
    have hMI := HJ3.out.ag.msi HJ3.out.ls.inv hlm
    have hMIp : ProgO V3.drew bm 2 m'.p := HMA.out.po hlm
    have hcon := constants_any V3.drew bm 2 m'.p hMIp fa fn fc m'.F (by rw [HFN.out]; exact HMA.out.fc hlm) (Nat.le_trans hMI.pg.g.pok.nP (by decide)) (by rw [hMI.len]; exact Nat.le_trans hMI.pg.g.pok.nD (by decide)) (fun L hL => ⟨Nat.le_trans (hMI.cap L hL) (by decide), hMI.r4 L hL⟩)
    obtain ⟨cl, ecl⟩ : ∃ cl : Nat, cl = (constF m'.p.pool m'.F).length := ⟨_, rfl⟩
    have hiul : iu = (cl : Int) := by rw [HIU.out, ecl]; exact HUM.out hlm
    subst hiul
    have hul3 : ¬ 256 < cl := by omega
    have hul4 : cl ≤ 256 := by omega
    obtain ⟨CL, eCL⟩ : ∃ CL, CL = constF m'.p.pool m'.F := ⟨_, rfl⟩
    rw [← eCL] at hcon ecl
    have HECL := hid_of ecl
    clear hlm HUM hMI hMIp eCL ecl
    repeat go_step
    refine wp_region_held_drew (S := fun W' => blk W' bm = some Ce) (by kernel_rfl) hbm3' (fun hHeld => ?_)
    refine wpAnyH_take (i := 0) (oi := ⟨_, _, _, _, _, _⟩) (v := ?_) rfl (by kernel_rfl) (by kernel_rfl) (by kernel_rfl) (fun _ _ _ h => h) (Or.inl ⟨by rfl, ?_⟩) (by assumption) ?_
    rotate_left 1
    · intro W' hSw
      go_simp
      try with_reducible rfl
    try simp only [Act.put, List.setIfInBounds_toArray, List.set_cons_zero, List.set_cons_succ]
    refine wpAnyH_take (i := 1) (oi := ⟨_, _, _, _, _, _⟩) (v := ?_) rfl (by kernel_rfl) (by kernel_rfl) (by kernel_rfl) (fun _ _ _ h => h) (Or.inl ⟨by rfl, ?_⟩) (by assumption) ?_
    rotate_left 1
    · intro W' hSw
      go_simp
      try with_reducible rfl
    try simp only [Act.put, List.setIfInBounds_toArray, List.set_cons_zero, List.set_cons_succ]
    refine wpAnyH_take (i := 2) (oi := ⟨_, _, _, _, _, _⟩) (v := ?_) rfl (by kernel_rfl) (by kernel_rfl) (by kernel_rfl) (fun _ _ _ h => h) (Or.inl ⟨by rfl, ?_⟩) (by assumption) ?_
    rotate_left 1
    · intro W' hSw
      go_simp
      try with_reducible rfl
    try simp only [Act.put, List.setIfInBounds_toArray, List.set_cons_zero, List.set_cons_succ]
    refine wpAnyH_take (i := 3) (oi := ⟨_, _, _, _, _, _⟩) (v := ?_) rfl (by kernel_rfl) (by kernel_rfl) (by kernel_rfl) (fun _ _ _ h => h) (Or.inl ⟨by rfl, ?_⟩) (by assumption) ?_
    rotate_left 1
    · intro W' hSw
      go_simp
      try with_reducible rfl
    try simp only [Act.put, List.setIfInBounds_toArray, List.set_cons_zero, List.set_cons_succ]
    refine wpAnyH_take (i := 4) (oi := ⟨_, _, _, _, _, _⟩) (v := ?_) rfl (by kernel_rfl) (by kernel_rfl) (by kernel_rfl) (fun _ _ _ h => h) (Or.inl ⟨by rfl, ?_⟩) (by assumption) ?_
    rotate_left 1
    · intro W' hSw
      go_simp
      try with_reducible rfl
    try simp only [Act.put, List.setIfInBounds_toArray, List.set_cons_zero, List.set_cons_succ]
    refine wpAnyH_take (i := 5) (oi := ⟨_, _, _, _, _, _⟩) (v := ?_) rfl (by kernel_rfl) (by kernel_rfl) (by kernel_rfl) (fun _ _ _ h => h) (Or.inl ⟨by rfl, ?_⟩) (by assumption) ?_
    rotate_left 1
    · intro W' hSw
      go_simp
      try with_reducible rfl
    try simp only [Act.put, List.setIfInBounds_toArray, List.set_cons_zero, List.set_cons_succ]
    refine wpAnyH_take (i := 7) (oi := ⟨_, _, _, _, _, _⟩) (v := ?_) rfl (by kernel_rfl) (by kernel_rfl) (by kernel_rfl) (fun _ _ _ h => h) (Or.inl ⟨by rfl, ?_⟩) (by assumption) ?_
    rotate_left 1
    · intro W' hSw
      go_simp
      try with_reducible rfl
    try simp only [Act.put, List.setIfInBounds_toArray, List.set_cons_zero, List.set_cons_succ]
    refine wpAnyH_take (i := 8) (oi := ⟨_, _, _, _, _, _⟩) (v := ?_) rfl (by kernel_rfl) (by kernel_rfl) (by kernel_rfl) (fun _ _ _ h => h) (Or.inl ⟨by rfl, ?_⟩) (by assumption) ?_
    rotate_left 1
    · intro W' hSw
      go_simp
      try with_reducible rfl
    try simp only [Act.put, List.setIfInBounds_toArray, List.set_cons_zero, List.set_cons_succ]
    refine wpAnyH_take (i := 9) (oi := ⟨_, _, _, _, _, _⟩) (v := ?_) rfl (by kernel_rfl) (by kernel_rfl) (by kernel_rfl) (fun _ _ _ h => h) (Or.inl ⟨by rfl, ?_⟩) (by assumption) ?_
    rotate_left 1
    · intro W' hSw
      go_simp
      try with_reducible rfl
    try simp only [Act.put, List.setIfInBounds_toArray, List.set_cons_zero, List.set_cons_succ]
    refine wpAnyH_take (i := 10) (oi := ⟨_, _, _, _, _, _⟩) (v := ?_) rfl (by kernel_rfl) (by kernel_rfl) (by kernel_rfl) (fun _ _ _ h => h) (Or.inl ⟨by rfl, ?_⟩) (by assumption) ?_
    rotate_left 1
    · intro W' hSw
      go_simp
      try with_reducible rfl
    try simp only [Act.put, List.setIfInBounds_toArray, List.set_cons_zero, List.set_cons_succ]
    refine wpAnyH_take (i := 11) (oi := ⟨_, _, _, _, _, _⟩) (v := ?_) rfl (by kernel_rfl) (by kernel_rfl) (by kernel_rfl) (fun _ _ _ h => h) (Or.inl ⟨by rfl, ?_⟩) (by assumption) ?_
    rotate_left 1
    · intro W' hSw
      go_simp
      try with_reducible rfl
    try simp only [Act.put, List.setIfInBounds_toArray, List.set_cons_zero, List.set_cons_succ]
    refine wpAnyH_take (i := 12) (oi := ⟨_, _, _, _, _, _⟩) (v := ?_) rfl (by kernel_rfl) (by kernel_rfl) (by kernel_rfl) (fun _ _ _ h => h) (Or.inl ⟨by rfl, ?_⟩) (by assumption) ?_
    rotate_left 1
    · intro W' hSw
      go_simp
      try with_reducible rfl
    try simp only [Act.put, List.setIfInBounds_toArray, List.set_cons_zero, List.set_cons_succ]
    refine wpAnyH_take (i := 13) (oi := ⟨_, _, _, _, _, _⟩) (v := ?_) rfl (by kernel_rfl) (by kernel_rfl) (by kernel_rfl) (fun _ _ _ h => h) (Or.inl ⟨by rfl, ?_⟩) (by assumption) ?_
    rotate_left 1
    · intro W' hSw
      go_simp
      try with_reducible rfl
    try simp only [Act.put, List.setIfInBounds_toArray, List.set_cons_zero, List.set_cons_succ]
    refine wpAnyH_ready (rs := [6]) (by kernel_rfl) (by simp) ?_
    refine AllReadyH.cons (o := ⟨_, _, _, _, _, _⟩) rfl (fun K' hK => ?_) AllReadyH.nil
    go_simp
    refine hiu.mono ?_
    rintro e Z1 ⟨rfl, rfl⟩
    dsimp only
    refine hK.out _ _ hbm3 (fun hHeld => ?_)
    clear hK K'
    try simp only [Act.put, List.setIfInBounds_toArray, List.set_cons_zero, List.set_cons_succ]
    refine wpAnyH_ready (rs := [14]) (by kernel_rfl) (by simp) ?_
    refine AllReadyH.cons (o := ⟨_, _, _, _, _, _⟩) rfl (fun K' hK => ?_) AllReadyH.nil
    go_simp
    refine hcon.mono ?_
    rintro e Z2 ⟨ca, cc, rfl, hcO⟩
    dsimp only
    rw [← HECL.out]
    have HJZ := hid_of (HJ3.out.grow hcO.2.1)
    have hbmz : blk Z2 bm = some Ce := (hcO.2.1.blk (blk_lt hbm3)).trans hbm3
    have hiu2 := inUse_any HJZ.out.ls.sv
    rw [← HIU.out] at hiu2
    clear hcon hcO
    refine hK.out _ _ hbmz (fun hHeld => ?_)
    clear hK K'
    try simp only [Act.put, List.setIfInBounds_toArray, List.set_cons_zero, List.set_cons_succ]
    refine wpAnyH_take (i := 15) (oi := ⟨_, _, _, _, _, _⟩) (v := ?_) rfl (by kernel_rfl) (by kernel_rfl) (by kernel_rfl) (fun _ _ _ h => h) (Or.inl ⟨by rfl, ?_⟩) (by assumption) ?_
    rotate_left 1
    · intro W' hSw
      go_simp
      try with_reducible rfl
    try simp only [Act.put, List.setIfInBounds_toArray, List.set_cons_zero, List.set_cons_succ]
    refine wpAnyH_take (i := 16) (oi := ⟨_, _, _, _, _, _⟩) (v := ?_) rfl (by kernel_rfl) (by kernel_rfl) (by kernel_rfl) (fun _ _ _ h => h) (Or.inl ⟨by rfl, ?_⟩) (by assumption) ?_
    rotate_left 1
    · intro W' hSw
      go_simp
      try with_reducible rfl
    try simp only [Act.put, List.setIfInBounds_toArray, List.set_cons_zero, List.set_cons_succ]
    refine wpAnyH_take (i := 17) (oi := ⟨_, _, _, _, _, _⟩) (v := ?_) rfl (by kernel_rfl) (by kernel_rfl) (by kernel_rfl) (fun _ _ _ h => h) (Or.inl ⟨by rfl, ?_⟩) (by assumption) ?_
    rotate_left 1
    · intro W' hSw
      go_simp
      try with_reducible rfl
    try simp only [Act.put, List.setIfInBounds_toArray, List.set_cons_zero, List.set_cons_succ]
    refine wpAnyH_take (i := 18) (oi := ⟨_, _, _, _, _, _⟩) (v := ?_) rfl (by kernel_rfl) (by kernel_rfl) (by kernel_rfl) (fun _ _ _ h => h) (Or.inl ⟨by rfl, ?_⟩) (by assumption) ?_
    rotate_left 1
    · intro W' hSw
      go_simp
      try with_reducible rfl
    try simp only [Act.put, List.setIfInBounds_toArray, List.set_cons_zero, List.set_cons_succ]
    refine wpAnyH_take (i := 19) (oi := ⟨_, _, _, _, _, _⟩) (v := ?_) rfl (by kernel_rfl) (by kernel_rfl) (by kernel_rfl) (fun _ _ _ h => h) (Or.inl ⟨by rfl, ?_⟩) (by assumption) ?_
    rotate_left 1
    · intro W' hSw
      go_simp
      try with_reducible rfl
    try simp only [Act.put, List.setIfInBounds_toArray, List.set_cons_zero, List.set_cons_succ]
    refine wpAnyH_ready (rs := [20]) (by kernel_rfl) (by simp) ?_
    refine AllReadyH.cons (o := ⟨_, _, _, _, _, _⟩) rfl (fun K' hK => ?_) AllReadyH.nil
    go_simp
    refine hiu2.mono ?_
    rintro e Z3 ⟨rfl, rfl⟩
    dsimp only
    refine hK.out _ _ hbmz (fun hHeld => ?_)
    clear hK K'
    try simp only [Act.put, List.setIfInBounds_toArray, List.set_cons_zero, List.set_cons_succ]
    refine wpAnyH_take (i := 21) (oi := ⟨_, _, _, _, _, _⟩) (v := ?_) rfl (by kernel_rfl) (by kernel_rfl) (by kernel_rfl) (fun _ _ _ h => h) (Or.inl ⟨by rfl, ?_⟩) (by assumption) ?_
    rotate_left 1
    · intro W' hSw
      go_simp
      try with_reducible rfl
    try simp only [Act.put, List.setIfInBounds_toArray, List.set_cons_zero, List.set_cons_succ]
    refine wpAnyH_take (i := 22) (oi := ⟨_, _, _, _, _, _⟩) (v := ?_) rfl (by kernel_rfl) (by kernel_rfl) (by kernel_rfl) (fun _ _ _ h => h) (Or.inl ⟨by rfl, ?_⟩) (by assumption) ?_
    rotate_left 1
    · intro W' hSw
      go_simp
      try with_reducible rfl
    try simp only [Act.put, List.setIfInBounds_toArray, List.set_cons_zero, List.set_cons_succ]
    refine wpAnyH_done (by kernel_rfl) ?_ _
    clear hHeld
    have HJN : Hid (∃ s m O g, JM Ob W1 bs bm (1000 + 10 * ((i + 1 : Nat) : Int)) s m O g Z3) := ⟨_, _, _, _, HJZ.out⟩
    go_wp2_with fail
    refine ⟨rfl, rfl, ⟨rfl, rfl, rfl, i + 1, by omega, ?_, HJN⟩, ?_⟩
    · show Value.int .i64 _ = _
      go_num
    · show N - (intOf (Value.int .i64 _)).toNat < N - (intOf (F 6)).toNat
      rw [H6.out]
      simp [intOf]; omega
end Go.Proofs.Qxb6500787aGreat
