import Derived.Test.Qxb6500787aZf
import Derived.Test.Qxb6500787aYk
import Derived.StillTailTactics
import Derived.Deep.QuietTactic
import Derived.BigQuiet
import Derived.Deep.RegionHeld
import Derived.Deep.CutRange
import Derived.Laws.ResultCell
import Derived.Laws.Rows
import Derived.DeepKeys
import Derived.DataBytes
import Derived.Laws.StructEq
import Derived.Laws.AppendOwn
import Derived.Laws.MakeOwn
import Derived.Lib.AppendStr
set_option linter.unusedSimpArgs false
set_option linter.unusedVariables false
namespace Go.Proofs.Qxb6500787a
open Go.RowKit Go.Blk
attribute [local go_sem ↓] execOp_load execOp_store execOp_alloc
attribute [local go_sem] Try.ld26 Try.st26 Try.ld27 Try.st27 Try.ld28 Try.st28 Try.ld3 Try.st3 Try.ld29 Try.st29 Try.ld44 Try.st44 Try.ld4 Try.st4 Try.ld50 Try.st50 Try.ld32 Try.st32 Try.ld49 Try.st49 Try.ld68 Try.st68 Try.ld9 Try.st9 Try.ld40 Try.st40 Try.ld138 Try.st138 Try.ld139 Try.st139 Try.ld146 Try.st146 Try.ld183 Try.st183 Try.ld184 Try.st184 Try.ld192 Try.st192 Try.ld195 Try.st195 Try.ld217 Try.st217 Try.ld159 Try.st159 Try.ld142 Try.st142 Try.ld2 Try.st2 Try.ld5 Try.st5 Try.ld12 Try.st12 Try.ld21 Try.st21 Try.ld22 Try.st22 Try.ld24 Try.st24 Try.ld58 Try.st58 Try.ld63 Try.st63 Try.ld97 Try.st97 Try.ld101 Try.st101 Try.ld116 Try.st116 Try.ld121 Try.st121 Try.ld135 Try.st135 Try.ld136 Try.st136 Try.ld143 Try.st143 Try.ld148 Try.st148 Try.ld154 Try.st154 Try.ld173 Try.st173 Try.ld187 Try.st187 Try.ld222 Try.st222 Try.ld241 Try.st241 Try.ld248 Try.st248 Try.ld268 Try.st268 Try.ld272 Try.st272 Try.ld153 Try.st153 Try.ld255 Try.st255 Try.ld256 Try.st256 Try.ld129 Try.st129 Try.ld152 Try.st152 Try.ld31 Try.st31 Try.ld46 Try.st46 Try.ld52 Try.st52 Try.ld54 Try.st54 Try.ld60 Try.st60 Try.ld70 Try.st70 Try.ld74 Try.st74 Try.ld93 Try.st93 Try.ld119 Try.st119 Try.ld141 Try.st141 Try.ld151 Try.st151 Try.ld170 Try.st170 Try.ld186 Try.st186 Try.ld189 Try.st189 Try.ld194 Try.st194 Try.ld197 Try.st197 Try.ld219 Try.st219 Try.ld224 Try.st224 Try.ld230 Try.st230 Try.ld235 Try.st235 Try.ld243 Try.st243 Try.ld247 Try.st247 Try.ld252 Try.st252 Try.ld258 Try.st258 Try.al153 Try.al255 Try.al256 Try.al129 Try.al152 Try.al31 Try.al46 Try.al52 Try.al54 Try.al60 Try.al70 Try.al74 Try.al93 Try.al119 Try.al141 Try.al151 Try.al170 Try.al186 Try.al189 Try.al194 Try.al197 Try.al219 Try.al224 Try.al230 Try.al235 Try.al243 Try.al247 Try.al252 Try.al258
attribute [local go_sem] Request.length_enc Request.ok_enc Request.all_get Request.all_set Request.kind_get Request.kind_set Request.blob_get Request.blob_set Request.items_get Request.items_set Request.pred_get Request.pred_set Request.slots_get Request.slots_set Trace.length_enc Trace.ok_enc Trace.all_get Trace.all_set Trace.op_get Trace.op_set Trace.calls_get Trace.calls_set Item.length_enc Item.ok_enc Item.all_get Item.all_set Item.del_get Item.del_set Item.pred_get Item.pred_set Item.args_get Item.args_set Reply.length_enc Reply.ok_enc Reply.all_get Reply.all_set Reply.code_get Reply.code_set Reply.kind_get Reply.kind_set Reply.index_get Reply.index_set Reply.yes_get Reply.yes_set Reply.preds_get Reply.preds_set Reply.rules_get Reply.rules_set Reply.arity_get Reply.arity_set Reply.rows_get Reply.rows_set Reply.fact_get Reply.fact_set Reply.fact_del_get Reply.fact_del_set Reply.fact_pred_get Reply.fact_pred_set Reply.fact_args_get Reply.fact_args_set GEntry.length_enc GEntry.ok_enc GEntry.all_get GEntry.all_set GEntry.seq_get GEntry.seq_set GEntry.kind_get GEntry.kind_set GEntry.code_get GEntry.code_set GOp.length_enc GOp.ok_enc GOp.all_get GOp.all_set GOp.kind_get GOp.kind_set GOp.raw_get GOp.raw_set Reader.length_enc Reader.ok_enc Reader.all_get Reader.all_set Reader.buf_get Reader.buf_set Reader.at__get Reader.at__set Slot.length_enc Slot.ok_enc Slot.all_get Slot.all_set Slot.bound_get Slot.bound_set Slot.name_get Slot.name_set Session.length_enc Session.ok_enc Session.all_get Session.all_set Session.svc_get Session.svc_set Session.buf_get Session.buf_set Session.closed_get Session.closed_set GProgram.length_enc GProgram.ok_enc GProgram.all_get GProgram.all_set GProgram.pool_get GProgram.pool_set GProgram.preds_get GProgram.preds_set GProgram.rules_get GProgram.rules_set GProgram.strata_get GProgram.strata_set PredInfo.length_enc PredInfo.ok_enc PredInfo.all_get PredInfo.all_set PredInfo.arity_get PredInfo.arity_set PredInfo.base_get PredInfo.base_set PredInfo.stratum_get PredInfo.stratum_set Change.length_enc Change.ok_enc Change.all_get Change.all_set Change.del_get Change.del_set Change.pred_get Change.pred_set Change.t_get Change.t_set Store.length_enc Store.ok_enc Store.all_get Store.all_set Store.names_get Store.names_set Store.arity_get Store.arity_set Store.rows_get Store.rows_set Src.length_enc Src.ok_enc Src.all_get Src.all_set Src.b_get Src.b_set Src.at__get Src.at__set Atom.length_enc Atom.ok_enc Atom.all_get Atom.all_set Atom.pred_get Atom.pred_set Atom.args_get Atom.args_set GRule.length_enc GRule.ok_enc GRule.all_get GRule.all_set GRule.head_get GRule.head_set GRule.body_get GRule.body_set GRule.head_pred_get GRule.head_pred_set GRule.head_args_get GRule.head_args_set Cert.length_enc Cert.ok_enc Cert.all_get Cert.all_set Cert.names_get Cert.names_set Cert.nodes_get Cert.nodes_set Fact.length_enc Fact.ok_enc Fact.all_get Fact.all_set Fact.pred_get Fact.pred_set Fact.t_get Fact.t_set Literal.length_enc Literal.ok_enc Literal.all_get Literal.all_set Literal.neg_get Literal.neg_set Literal.atom_get Literal.atom_set Literal.atom_pred_get Literal.atom_pred_set Literal.atom_args_get Literal.atom_args_set Engine.length_enc Engine.ok_enc Engine.all_get Engine.all_set Engine.prog_get Engine.prog_set Engine.st_get Engine.st_set SrcCertm.length_enc SrcCertm.ok_enc SrcCertm.all_get SrcCertm.all_set SrcCertm.b_get SrcCertm.b_set SrcCertm.at__get SrcCertm.at__set GNode.length_enc GNode.ok_enc GNode.all_get GNode.all_set GNode.rule_get GNode.rule_set GNode.pred_get GNode.pred_set GNode.vals_get GNode.vals_set GNode.refs_get GNode.refs_set Term.length_enc Term.ok_enc Term.all_get Term.all_set Term.var_get Term.var_set Term.n_get Term.n_set Env.length_enc Env.ok_enc Env.all_get Env.all_set Env.val_get Env.val_set Env.set_get Env.set_set
attribute [local go_sem] size_put size_ext blk_put free_put blk_alloc free_alloc blk_drew free_drew blk_ext free_ext lookOr_some putOr_some segAt_some cellAt_some storeIn_some put_put put_alloc_new length_arr ok_arr_u8 ok_arr_u32 ok_arr_u64 ok_arr_i64 ok_arr_sl cellsV_agg cellsV_int cellsV_bool cellsV_string cellsV_pointer cellsV_slice cellsV_sl ok_int ok_bool ok_string ok_pointer ok_slice ok_sl toList_arr seg_arr set_arr nth_splice nth_splice0 seg_splice seg_splice0 splice_splice splice_splice0 length_splice_if
attribute [local go_sem ↓] execOp_box
attribute [local go_sem] box_run nth_arr_u8 put_arr_u8 blk_drewN free_drewN put_drewN blk_raw free_raw
attribute [local go_sem ↓] execOp_slice execOp_convert execOp_bslice execOp_make execOp_build
attribute [local go_sem] build54z
set_option maxRecDepth 20000 in
theorem decodeReply_nil (W : World) (a : Option Addr) (c : Nat) : Calls Try.prog 24 #[.slice a 0 c] W (DrPost W (drF [])) := by
  go_enter Try.func24, Try.ntmps24
  go_upto_region 1 with fail
  refine wp_world (fun V => W.Extends V ∧ blk V W.heap.size = some Reply.zero.enc ∧ free V W.heap.size = true ∧ V.heap.size = W.heap.size + 1) ⟨extends_alloc (ext_Ext (Ext.refl _)) _, ?_, ?_, ?_⟩ ?_
  · rw [blk_alloc, if_pos rfl]; try rfl
  · rw [free_alloc, if_pos rfl]
  · rw [World.size_alloc]
  rintro W1 ⟨hx1, hb2, hf2, hsz1⟩
  obtain ⟨b2, e2⟩ : ∃ b2, b2 = W.heap.size := ⟨_, rfl⟩
  rw [← e2] at hb2 hf2 ⊢
  have hW2 : W.heap.size ≤ b2 := by omega
  have HX1 := hid_of hx1
  clear hsz1 e2
  have HP : Hid (DrPost W (drF []) (.returned (.tuple #[.agg (Reply.enc (repZ 0 0 0)).toArray, .int .i64 1])) (put W1 b2 (Reply.enc (repZ 0 0 0)))) := by
    show DrPost _ _ _ _
    exact ⟨_, rfl, (Side.put (D := fun k => k = b2) (Side.refl _ _) rfl _).extends HX1.out (fun k hk => by have hk' : k = b2 := hk; omega), fun h => absurd (show (1 : Int) = 0 from h) (by decide)⟩
  go_wp2_with fail
  refine ret_cell_tmp (C := Reply.enc (repZ 0 0 0)) rfl rfl rfl ?_ (by kernel_rfl) (by rw [Reply.length_enc]; kernel_rfl) rfl (by exact HP.out)
  first | assumption | (rw [blk_put, if_pos rfl, hb2]; rfl)
theorem decodeReply_2 (W : World) (s : Sl) (xs : List UInt8) (hX : Dec2 W s xs) : Calls Try.prog 24 #[.slice s.a s.len s.cap] W (DrPost W (drF xs)) := by
  rcases hX with ⟨h1, rfl⟩ | ⟨h1, h2, h3, h4⟩
  · rw [h1]; exact decodeReply_nil W _ _
  · exact decodeReply_any W _ _ _ (by omega) h2 h3 xs h1
def a6I (Ob : Own) (Wb : World) (bs : Nat) (A : Option Addr) (N Cp : Nat) (f : Nat → Value) (V : World) : Prop := f 3 = .pointer (some ⟨bs, 0, none⟩) ∧ f 4 = .slice A N Cp ∧ ∃ i : Nat, i ≤ N ∧ f 5 = .int .i64 (i : Nat) ∧ Hid (∃ s O g, LS Ob Wb bs (1000 + 10 * (i : Int)) s O g V)
set_option maxRecDepth 100000 in
theorem frame80d (f : Nat → Value) : frameN 80 f = #[f 0, f 1, f 2, f 3, f 4, f 5, f 6, f 7, f 8, f 9, f 10, f 11, f 12, f 13, f 14, f 15, f 16, f 17, f 18, f 19, f 20, f 21, f 22, f 23, f 24, f 25, f 26, f 27, f 28, f 29, f 30, f 31, f 32, f 33, f 34, f 35, f 36, f 37, f 38, f 39, f 40, f 41, f 42, f 43, f 44, f 45, f 46, f 47, f 48, f 49, f 50, f 51, f 52, f 53, f 54, f 55, f 56, f 57, f 58, f 59, f 60, f 61, f 62, f 63, f 64, f 65, f 66, f 67, f 68, f 69, f 70, f 71, f 72, f 73, f 74, f 75, f 76, f 77, f 78, f 79] := by kernel_rfl
set_option maxRecDepth 40000 in
set_option maxHeartbeats 2000000 in
theorem replies_walk (w : World) (a : Option Addr) (len cap : Nat) (g : Nat → GOp) (dt : Nat → List UInt8) (hS : ScriptAt w a len cap g dt) : Calls Try.prog 6 #[.slice a len cap] w fun e w' => e = .returned (.bool true) ∧ w.Extends w' := by
  have HS : Hid (ScriptAt w a len cap g dt) := hS
  have hS0 := hS
  clear hS
  go_enter Try.func6, Try.ntmps6
  go_wp2_with fail
  refine (small_any w a len cap g dt hS0).mono ?_
  rintro e w1 ⟨⟨r, rfl, hr⟩, rfl⟩
  clear hS0
  dsimp only
  cases r
  · go_wp2_with fail
    go_ret
    exact ⟨rfl, ext_Ext (Ext.refl _)⟩
  obtain ⟨hlen, hsz⟩ := hr rfl
  have HSZ : Hid (∀ i, i < len → (g i).raw.len ≤ 65536) := hsz
  clear hr hsz
  go_wp2_with fail
  refine (new_any w1).mono ?_
  rintro e w2 ⟨rfl, e2⟩
  dsimp only
  have HS2 : Hid (ScriptAt w2 a len cap g dt) := by
    show ScriptAt _ _ _ _ _ _
    rw [e2]
    exact HS.out.mono (extends_alloc (ext_Ext (Ext.refl _)) _)
  have HE2 := hid_of e2
  clear e2
  go_wp2_with fail
  refine (sends_any w2 a len cap g dt HS2.out hlen).mono ?_
  rintro e W1 ⟨A, N, Cp, L, rfl, hat⟩
  dsimp only
  rw [HE2.out] at hat
  have hbeg := beg_of HS.out hlen HSZ.out hat
  obtain ⟨bs, ebs⟩ : ∃ bs, bs = w1.heap.size := ⟨_, rfl⟩
  rw [← ebs] at hbeg ⊢
  obtain ⟨Ob, hOb⟩ : ∃ Ob, Ob = lab (lab (fun _ => Lab.no) bs (.a 0 0)) (bs + 1) .no := ⟨_, rfl⟩
  rw [← hOb] at hbeg
  have HBEG := hid_of hbeg
  have H57 : Hid (∀ k, k < W1.heap.size → ¬ ∃ j, Ob k = .a 5 j) := fun k _ => by
    rintro ⟨j, e⟩
    rw [hOb] at e
    by_cases h1 : k < bs + 1
    · rw [lab_lt h1] at e
      by_cases h2 : k < bs
      · rw [lab_lt h2] at e; cases e
      · rw [lab_ge (by omega)] at e; have := (Lab.a.inj e).1; omega
    · rw [lab_ge (by omega)] at e; cases e
  have hN : N ≤ 65536 := hbeg.nn
  clear hat hbeg ebs hOb HS2 HE2 HSZ
  go_upto_region 6 with fail
  refine wp_loop_f 80 (a6I Ob W1 bs A N Cp) (fun f _ => N - (intOf (f 5)).toNat) rfl ⟨rfl, rfl, 0, by omega, rfl, ⟨Sv.zero, Ob, 0, HBEG.out.ls⟩⟩ ?_
  intro F V hrel
  obtain ⟨f3, f4, i, hi, f5, HJ⟩ := hrel
  have H5 := hid_of f5
  rw [frame80d, f3, f4, f5]
  clear f3 f4 f5
  obtain ⟨s, O, g0, hLS⟩ := HJ.out
  have HLS := hid_of hLS
  clear HJ
  by_cases hin : i < N
  rotate_left 1
  · have hin' : ¬ (i : Int) < (N : Int) := by omega
    have HX := hid_of (kp_ext hLS.kp HBEG.out.ex HBEG.out.old)
    clear hLS
    go_wp2_with fail
    go_ret
    exact ⟨rfl, HX.out⟩
  have hin' : (i : Int) < (N : Int) := by omega
  have i0 : (0 : Int) ≤ (i : Int) := by omega
  have i2 : ((i : Int)).toNat = i := by omega
  obtain ⟨x, raw, br, CR, rfl, hbr, hobr, hcl, hnr, hrl, hdx⟩ := HBEG.out.at hin
  obtain ⟨hbrV, hobV⟩ := hLS.blk hbr hobr
  have HBR : Hid (blk W1 br = some CR ∧ Ob br = .no) := ⟨hbr, hobr⟩
  have HDX := hid_of hdx
  have HRL := hid_of hrl
  have HDV : Hid (Dec2 V x raw) := (hdx.sub hLS.sub).sub (Sub.core _ _)
  have hdec := decodeReply_2 V x raw HDV.out
  obtain ⟨xa, xn, xc⟩ := x
  dsimp only at hnr hdec
  have hbl := blk_lt hbrV
  clear hLS hbr hobr hdx hrl hobV
  go_wp2_with fail
  refine hdec.mono ?_
  rintro e V2 ⟨rep, rfl, hx2, hc2⟩
  dsimp only
  obtain ⟨cd, hcd⟩ : ∃ cd, cd = (drF raw).1 := ⟨_, rfl⟩
  rw [← hcd] at hc2 ⊢
  have HC2 := hid_of hc2
  have HCD := hid_of hcd
  have HX2 := hid_of hx2
  clear hdec hc2 hcd hx2
  go_upto_region 9 with fail
  refine wp_world (fun V' => V2.Extends V' ∧ blk V' V2.heap.size = some (Reply.enc rep)) ⟨?_, ?_⟩ ?_
  · first | exact extends_alloc (ext_Ext (Ext.refl _)) _ | exact (Side.put (D := fun k => k = V2.heap.size) (Side.refl _ _) rfl _).extends (extends_alloc (ext_Ext (Ext.refl _)) _) (fun k hk => by have hk' : k = V2.heap.size := hk; omega)
  · first | (rw [blk_put, if_pos rfl, blk_alloc, if_pos rfl]; rfl) | (rw [blk_alloc, if_pos rfl])
  rintro V3 ⟨hx3, hb6⟩
  have HX3 := hid_of hx3
  obtain ⟨b6, e6⟩ : ∃ b6, b6 = V2.heap.size := ⟨_, rfl⟩
  rw [← e6] at hb6 ⊢
  have hbr3 : blk V3 br = some CR := (((HX2.out.trans hx3).blk hbl)).trans hbrV
  clear e6 hx3 hbrV hbl
  by_cases hz : cd = 0
  rotate_left 1
  · have hzb : (cd == 0) = false := by simp [hz]
    go_upto_region 9 with fail
    go_quiet (fail)
    have HX5 : Hid (V.Extends (V3.drewN nq)) := extends_drewN (HX2.out.trans HX3.out) nq
    have hLS5 := HLS.out.grow HX5.out
    have hbr5 := (hLS5.blk HBR.out.1 HBR.out.2).1
    have hsv := hLS5.serve (by omega) ⟨xa, xn, xc⟩ raw (HDX.out.sub hLS5.sub) HRL.out
    clear hLS5
    go_wp2_with fail
    refine hsv.mono ?_
    rintro e V6 ⟨ra, rn, rc, q, s', O', g', rfl, hsr, hRB, hK6, hL6, hBs6, hrc1, hrc2⟩
    dsimp only
    obtain ⟨q2, hq2⟩ := hsr.dec HLS.out.inv.ins HRL.out
    have hlq := encR'_len hRB
    have hbs6 : Bs V6 ra rn (encR' q) := hBs6.sub (Sub.core _ _)
    have hln : (encR' q).length = rn := hbs6.1
    have hrnb : rn ≤ 200000 := by omega
    have HBS6 := hid_of hbs6
    have HL6 := hid_of hL6
    have hdec6 := decodeReply_any V6 ra rn rc (by omega) hrc1 (by simp only [maxLen] at hrc2; omega) _ hbs6
    rw [hq2] at hdec6
    obtain ⟨e1, e2, -, -⟩ := drF_inv hq2
    have HE1 := hid_of e1
    have HE2 := hid_of e2
    clear hsv hsr hRB hK6 hL6 hBs6 hrc1 hrc2 hlq hbs6 hln hq2 e1 e2 hbr5
    go_wp2_with fail
    refine hdec6.mono ?_
    rintro e V7 ⟨rep2, rfl, hx7, hc7⟩
    dsimp only
    have HX7 := hid_of hx7
    have HC7 := hid_of (hc7 rfl)
    clear hx7 hc7 hdec6
    go_upto_region 15 with fail
    refine wp_world (fun V' => V7.Extends V' ∧ blk V' V7.heap.size = some (Reply.enc rep2)) ⟨?_, ?_⟩ ?_
    · first | exact extends_alloc (ext_Ext (Ext.refl _)) _ | exact (Side.put (D := fun k => k = V7.heap.size) (Side.refl _ _) rfl _).extends (extends_alloc (ext_Ext (Ext.refl _)) _) (fun k hk => by have hk' : k = V7.heap.size := hk; omega)
    · first | (rw [blk_put, if_pos rfl, blk_alloc, if_pos rfl]; rfl) | (rw [blk_alloc, if_pos rfl])
    rintro V8 ⟨hx8, hb9⟩
    have HX8 := hid_of hx8
    obtain ⟨b9, e9⟩ : ∃ b9, b9 = V7.heap.size := ⟨_, rfl⟩
    rw [← e9] at hb9 ⊢
    have henc := encodeReply_any V8 rep2 q2 (HC7.out.sub (Sub.ext hx8)) HE2.out
    rw [HE1.out] at henc
    clear e9 hx8
    go_wp2_with fail
    refine henc.mono ?_
    rintro e V9 ⟨ea, en, ec, rfl, hO9⟩
    dsimp only
    have hen : en = rn := by rw [hO9.2.2, HBS6.out.1]
    subst hen
    have hsame := sameBytes_eq V9 ea ra en ec rc (by omega) _ hO9.bs (HBS6.out.grow ((HX7.out.trans HX8.out).trans hO9.2.1))
    have HJ' : Hid (∀ n, ∃ s O g, LS Ob W1 bs (1000 + 10 * ((i + 1 : Nat) : Int)) s O g (V9.drewN n)) := fun n => by
      have e9 : (1000 + 10 * ((i + 1 : Nat) : Int)) = 1000 + 10 * (i : Int) + 10 := by omega
      exact ⟨s', _, g', by rw [e9]; exact (HL6.out.grow ((HX7.out.trans HX8.out).trans hO9.2.1)).drewN n⟩
    clear henc hO9 HL6 HBS6 hb9
    go_wp2_with fail
    refine hsame.mono ?_
    rintro e V10 ⟨rfl, kk, rfl⟩
    dsimp only
    clear hsame
    go_wp2_with fail
    refine ⟨rfl, rfl, ⟨rfl, rfl, i + 1, by omega, ?_, HJ'.out kk⟩, ?_⟩
    · show Value.int .i64 _ = _
      go_num
    · show N - (intOf (Value.int .i64 _)).toNat < N - (intOf (F 5)).toNat
      rw [H5.out]
      simp [intOf]; omega
  obtain ⟨qz, hqz⟩ : ∃ qz, drF raw = (0, qz) := ⟨(drF raw).2, by rw [← hz, HCD.out]⟩
  obtain ⟨z1, z2, z3, z4⟩ := drF_inv hqz
  have hRC : RepC V3 rep qz := by
    have h9 := HC2.out hz
    rw [hqz] at h9
    exact h9.sub (Sub.ext HX3.out)
  have hBV : Bs V3 xa xn raw := by
    rcases HDV.out with ⟨-, h⟩ | ⟨h, -⟩
    · rw [h] at hqz; exact absurd (congrArg Prod.fst hqz) (by show ¬ (1 : Int) = 0; decide)
    · exact h.grow (HX2.out.trans HX3.out)
  have hrlen : rep.rows.len = qz.rows.length := by
    obtain ⟨Ds, r1, r2, -⟩ := hRC.rows
    rw [← r2, r1.1]
  have hrl5 : rep.rows.len ≤ 512 := by omega
  have hck : ¬ (rep.code = 0 ∧ rep.kind = 0) := by rw [hRC.code, hRC.kind]; exact z4
  have henc := fun V' (hx : V3.Extends V') => encodeReply_any V' rep qz (hRC.sub (Sub.ext hx)) z2
  rw [z1] at henc
  have HENC := hid_of henc
  have HBV := hid_of hBV
  have HRL2 : Hid (raw.length = xn) := hBV.1
  have hxnb : xn ≤ 65536 := by have := HRL.out; have := HRL2.out; omega
  obtain ⟨RL, hRL⟩ : ∃ RL, RL = Reply.enc rep := ⟨_, rfl⟩
  rw [← hRL] at hb6
  have rl0 : nth RL 0 = some (.int .i64 rep.code) := by rw [hRL]; rfl
  have rl1 : nth RL 1 = some (.int .i64 rep.kind) := by rw [hRL]; rfl
  have rl7 : nth RL 7 = some (.slice rep.rows.a rep.rows.len rep.rows.cap) := by rw [hRL]; rfl
  have rll : RL.length = 11 := by rw [hRL]; exact Reply.length_enc _
  have rls : seg RL 0 11 = RL := by rw [hRL]; exact Reply.all_get _
  have hsame : ∀ V' a' c', Bs V' a' xn raw → V3.Extends V' → Calls Try.prog 17 #[.slice a' xn c', .slice xa xn xc] V' fun e W' => e = .returned (.bool true) ∧ ∃ k, W' = V'.drewN k := fun V' a' c' h1 h2 => sameBytes_eq V' a' xa xn c' xc (by omega) raw h1 (HBV.out.grow h2)
  have HSAME := hid_of hsame
  obtain ⟨rcd, hrcd⟩ : ∃ v, v = rep.code := ⟨_, rfl⟩
  obtain ⟨rkd, hrkd⟩ : ∃ v, v = rep.kind := ⟨_, rfl⟩
  obtain ⟨rra, hrra⟩ : ∃ v, v = rep.rows.a := ⟨_, rfl⟩
  obtain ⟨rrn, hrrn⟩ : ∃ v, v = rep.rows.len := ⟨_, rfl⟩
  obtain ⟨rrc, hrrc⟩ : ∃ v, v = rep.rows.cap := ⟨_, rfl⟩
  rw [← hrcd, ← hrkd] at hck
  rw [← hrcd] at rl0
  rw [← hrkd] at rl1
  rw [← hrra, ← hrrn, ← hrrc] at rl7
  rw [← hrrn] at hrl5
  have HRLE := hid_of hRL
  simp only [← hRL] at henc
  have HENC2 := hid_of henc
  have hS0 : blk V3.drew b6 = some RL ∧ blk V3.drew br = some CR := ⟨hb6, hbr3⟩
  clear hqz z1 z2 z3 z4 hRC hBV hrlen henc hsame hrcd hrkd hrra hrrn hrrc hRL HENC
  have hxd := extd V3
  have l6 := blk_lt hb6
  have lb := blk_lt hbr3
  subst hz
  go_upto_region 9 with fail
  refine wp_region_held_drew (S := fun W' => blk W' b6 = some RL ∧ blk W' br = some CR) (by kernel_rfl) hS0 (fun hHeld => ?_)
  refine wpAnyH_take (i := 0) (oi := ⟨_, _, _, _, _, _⟩) (v := ?_) rfl (by kernel_rfl) (by kernel_rfl) (by kernel_rfl) (fun _ _ _ h => h) (Or.inl ⟨by rfl, ?_⟩) (by assumption) ?_
  rotate_left 1
  · intro W' hSw
    obtain ⟨hS1, hS2⟩ := hSw
    go_simp
    try with_reducible rfl
  try simp only [Act.put, List.setIfInBounds_toArray, List.set_cons_zero, List.set_cons_succ]
  refine wpAnyH_take (i := 1) (oi := ⟨_, _, _, _, _, _⟩) (v := ?_) rfl (by kernel_rfl) (by kernel_rfl) (by kernel_rfl) (fun _ _ _ h => h) (Or.inl ⟨by rfl, ?_⟩) (by assumption) ?_
  rotate_left 1
  · intro W' hSw
    obtain ⟨hS1, hS2⟩ := hSw
    go_simp
    try with_reducible rfl
  try simp only [Act.put, List.setIfInBounds_toArray, List.set_cons_zero, List.set_cons_succ]
  refine wpAnyH_take (i := 2) (oi := ⟨_, _, _, _, _, _⟩) (v := ?_) rfl (by kernel_rfl) (by kernel_rfl) (by kernel_rfl) (fun _ _ _ h => h) (Or.inl ⟨by rfl, ?_⟩) (by assumption) ?_
  rotate_left 1
  · intro W' hSw
    obtain ⟨hS1, hS2⟩ := hSw
    go_simp
    try with_reducible rfl
  try simp only [Act.put, List.setIfInBounds_toArray, List.set_cons_zero, List.set_cons_succ]
  refine wpAnyH_take (i := 3) (oi := ⟨_, _, _, _, _, _⟩) (v := ?_) rfl (by kernel_rfl) (by kernel_rfl) (by kernel_rfl) (fun _ _ _ h => h) (Or.inl ⟨by rfl, ?_⟩) (by assumption) ?_
  rotate_left 1
  · intro W' hSw
    obtain ⟨hS1, hS2⟩ := hSw
    go_simp
    try with_reducible rfl
  try simp only [Act.put, List.setIfInBounds_toArray, List.set_cons_zero, List.set_cons_succ]
  refine wpAnyH_take (i := 5) (oi := ⟨_, _, _, _, _, _⟩) (v := ?_) rfl (by kernel_rfl) (by kernel_rfl) (by kernel_rfl) (fun _ _ _ h => h) (Or.inl ⟨by rfl, ?_⟩) (by assumption) ?_
  rotate_left 1
  · intro W' hSw
    obtain ⟨hS1, hS2⟩ := hSw
    go_simp
    try with_reducible rfl
  try simp only [Act.put, List.setIfInBounds_toArray, List.set_cons_zero, List.set_cons_succ]
  refine wpAnyH_take (i := 6) (oi := ⟨_, _, _, _, _, _⟩) (v := ?_) rfl (by kernel_rfl) (by kernel_rfl) (by kernel_rfl) (fun _ _ _ h => h) (Or.inl ⟨by rfl, ?_⟩) (by assumption) ?_
  rotate_left 1
  · intro W' hSw
    obtain ⟨hS1, hS2⟩ := hSw
    go_simp
    try with_reducible rfl
  try simp only [Act.put, List.setIfInBounds_toArray, List.set_cons_zero, List.set_cons_succ]
  refine wpAnyH_take (i := 7) (oi := ⟨_, _, _, _, _, _⟩) (v := ?_) rfl (by kernel_rfl) (by kernel_rfl) (by kernel_rfl) (fun _ _ _ h => h) (Or.inl ⟨by rfl, ?_⟩) (by assumption) ?_
  rotate_left 1
  · intro W' hSw
    obtain ⟨hS1, hS2⟩ := hSw
    go_simp
    try with_reducible rfl
  try simp only [Act.put, List.setIfInBounds_toArray, List.set_cons_zero, List.set_cons_succ]
  refine wpAnyH_take (i := 8) (oi := ⟨_, _, _, _, _, _⟩) (v := ?_) rfl (by kernel_rfl) (by kernel_rfl) (by kernel_rfl) (fun _ _ _ h => h) (Or.inl ⟨by rfl, ?_⟩) (by assumption) ?_
  rotate_left 1
  · intro W' hSw
    obtain ⟨hS1, hS2⟩ := hSw
    go_simp
    try with_reducible rfl
  try simp only [Act.put, List.setIfInBounds_toArray, List.set_cons_zero, List.set_cons_succ]
  refine wpAnyH_ready (rs := [4]) (by kernel_rfl) (by simp) ?_
  refine AllReadyH.cons (o := ⟨_, _, _, _, _, _⟩) rfl (fun K' hK => ?_) AllReadyH.nil
  go_simp
  refine (HENC2.out _ hxd).mono ?_
  rintro e V5 ⟨ea, en, ec, rfl, hO5⟩
  dsimp only
  have hen : xn = en := by rw [hO5.2.2]; exact HRL2.out.symm
  subst hen
  have HXE : Hid (V3.Extends V5) := hxd.trans hO5.2.1
  have HSE := hid_of (HSAME.out V5 ea ec hO5.bs HXE.out)
  have hS5 : blk V5 b6 = some RL ∧ blk V5 br = some CR := ⟨(HXE.out.blk l6).trans hb6, (HXE.out.blk lb).trans hbr3⟩
  clear hO5
  refine hK.out _ _ hS5 (fun hHeld => ?_)
  clear hK K'
  try simp only [Act.put, List.setIfInBounds_toArray, List.set_cons_zero, List.set_cons_succ]
  refine wpAnyH_ready (rs := [9]) (by kernel_rfl) (by simp) ?_
  refine AllReadyH.cons (o := ⟨_, _, _, _, _, _⟩) rfl (fun K' hK => ?_) AllReadyH.nil
  go_simp
  refine HSE.out.mono ?_
  rintro e V6 ⟨rfl, k5, rfl⟩
  dsimp only
  have hHeld5 : blk (V5.drewN k5) b6 = some RL ∧ blk (V5.drewN k5) br = some CR := hS5
  refine hK.out _ _ hHeld5 (fun hHeld => ?_)
  clear hK K'
  try simp only [Act.put, List.setIfInBounds_toArray, List.set_cons_zero, List.set_cons_succ]
  refine wpAnyH_take (i := 10) (oi := ⟨_, _, _, _, _, _⟩) (v := ?_) rfl (by kernel_rfl) (by kernel_rfl) (by kernel_rfl) (fun _ _ _ h => h) (Or.inl ⟨by rfl, ?_⟩) (by assumption) ?_
  rotate_left 1
  · intro W' hSw
    obtain ⟨hS1, hS2⟩ := hSw
    go_simp
    try with_reducible rfl
  try simp only [Act.put, List.setIfInBounds_toArray, List.set_cons_zero, List.set_cons_succ]
  refine wpAnyH_take (i := 11) (oi := ⟨_, _, _, _, _, _⟩) (v := ?_) rfl (by kernel_rfl) (by kernel_rfl) (by kernel_rfl) (fun _ _ _ h => h) (Or.inl ⟨by rfl, ?_⟩) (by assumption) ?_
  rotate_left 1
  · intro W' hSw
    obtain ⟨hS1, hS2⟩ := hSw
    go_simp
    try with_reducible rfl
  try simp only [Act.put, List.setIfInBounds_toArray, List.set_cons_zero, List.set_cons_succ]
  refine wpAnyH_done (by kernel_rfl) ?_ _
  have r5 : ¬ (rrn : Int) > 512 := by omega
  have r5' : ¬ (512 : Int) < (rrn : Int) := by omega
  have r5b : decide ((rrn : Int) > 512) = false := decide_eq_false r5
  have r5c : decide ((512 : Int) < (rrn : Int)) = false := decide_eq_false r5
  have HXV5 : Hid (V.Extends (V5.drewN k5)) := (HX2.out.trans HX3.out).trans (extends_drewN HXE.out k5)
  obtain ⟨X5, hX5⟩ : ∃ X5, X5 = V5.drewN k5 := ⟨_, rfl⟩
  have hb65 : blk X5 b6 = some RL := by rw [hX5]; exact hHeld5.1
  rw [← hX5] at HXV5
  rw [← hX5]
  have HX5 := hid_of HXV5.out
  clear hX5 hHeld5 hHeld hS0 hb6 hbr3
  by_cases hc0 : rcd = 0
  · have hk0 : rkd ≠ 0 := fun e => hck ⟨hc0, e⟩
    have hkb : (rkd == 0) = false := by simp [hk0]
    subst hc0
    clear hck
    have hLS5 := HLS.out.grow HX5.out
    have hbr5 := (hLS5.blk HBR.out.1 HBR.out.2).1
    have hsv := hLS5.serve (by omega) ⟨xa, xn, xc⟩ raw (HDX.out.sub hLS5.sub) HRL.out
    clear hLS5
    go_wp2_with fail
    refine hsv.mono ?_
    rintro e V6 ⟨ra, rn, rc, q, s', O', g', rfl, hsr, hRB, hK6, hL6, hBs6, hrc1, hrc2⟩
    dsimp only
    obtain ⟨q2, hq2⟩ := hsr.dec HLS.out.inv.ins HRL.out
    have hlq := encR'_len hRB
    have hbs6 : Bs V6 ra rn (encR' q) := hBs6.sub (Sub.core _ _)
    have hln : (encR' q).length = rn := hbs6.1
    have hrnb : rn ≤ 200000 := by omega
    have HBS6 := hid_of hbs6
    have HL6 := hid_of hL6
    have hdec6 := decodeReply_any V6 ra rn rc (by omega) hrc1 (by simp only [maxLen] at hrc2; omega) _ hbs6
    rw [hq2] at hdec6
    obtain ⟨e1, e2, -, -⟩ := drF_inv hq2
    have HE1 := hid_of e1
    have HE2 := hid_of e2
    clear hsv hsr hRB hK6 hL6 hBs6 hrc1 hrc2 hlq hbs6 hln hq2 e1 e2 hbr5
    go_wp2_with fail
    refine hdec6.mono ?_
    rintro e V7 ⟨rep2, rfl, hx7, hc7⟩
    dsimp only
    have HX7 := hid_of hx7
    have HC7 := hid_of (hc7 rfl)
    clear hx7 hc7 hdec6
    go_upto_region 15 with fail
    refine wp_world (fun V' => V7.Extends V' ∧ blk V' V7.heap.size = some (Reply.enc rep2)) ⟨?_, ?_⟩ ?_
    · first | exact extends_alloc (ext_Ext (Ext.refl _)) _ | exact (Side.put (D := fun k => k = V7.heap.size) (Side.refl _ _) rfl _).extends (extends_alloc (ext_Ext (Ext.refl _)) _) (fun k hk => by have hk' : k = V7.heap.size := hk; omega)
    · first | (rw [blk_put, if_pos rfl, blk_alloc, if_pos rfl]; rfl) | (rw [blk_alloc, if_pos rfl])
    rintro V8 ⟨hx8, hb9⟩
    have HX8 := hid_of hx8
    obtain ⟨b9, e9⟩ : ∃ b9, b9 = V7.heap.size := ⟨_, rfl⟩
    rw [← e9] at hb9 ⊢
    have henc := encodeReply_any V8 rep2 q2 (HC7.out.sub (Sub.ext hx8)) HE2.out
    rw [HE1.out] at henc
    clear e9 hx8
    go_wp2_with fail
    refine henc.mono ?_
    rintro e V9 ⟨ea, en, ec, rfl, hO9⟩
    dsimp only
    have hen : en = rn := by rw [hO9.2.2, HBS6.out.1]
    subst hen
    have hsame := sameBytes_eq V9 ea ra en ec rc (by omega) _ hO9.bs (HBS6.out.grow ((HX7.out.trans HX8.out).trans hO9.2.1))
    have HJ' : Hid (∀ n, ∃ s O g, LS Ob W1 bs (1000 + 10 * ((i + 1 : Nat) : Int)) s O g (V9.drewN n)) := fun n => by
      have e9 : (1000 + 10 * ((i + 1 : Nat) : Int)) = 1000 + 10 * (i : Int) + 10 := by omega
      exact ⟨s', _, g', by rw [e9]; exact (HL6.out.grow ((HX7.out.trans HX8.out).trans hO9.2.1)).drewN n⟩
    clear henc hO9 HL6 HBS6 hb9
    go_wp2_with fail
    refine hsame.mono ?_
    rintro e V10 ⟨rfl, kk, rfl⟩
    dsimp only
    clear hsame
    go_wp2_with fail
    refine ⟨rfl, rfl, ⟨rfl, rfl, i + 1, by omega, ?_, HJ'.out kk⟩, ?_⟩
    · show Value.int .i64 _ = _
      go_num
    · show N - (intOf (Value.int .i64 _)).toNat < N - (intOf (F 5)).toNat
      rw [H5.out]
      simp [intOf]; omega
  · have hcb : (rcd == 0) = false := by simp [hc0]
    clear hck
    have hLS5 := HLS.out.grow HX5.out
    have hbr5 := (hLS5.blk HBR.out.1 HBR.out.2).1
    have hsv := hLS5.serve (by omega) ⟨xa, xn, xc⟩ raw (HDX.out.sub hLS5.sub) HRL.out
    clear hLS5
    go_wp2_with fail
    refine hsv.mono ?_
    rintro e V6 ⟨ra, rn, rc, q, s', O', g', rfl, hsr, hRB, hK6, hL6, hBs6, hrc1, hrc2⟩
    dsimp only
    obtain ⟨q2, hq2⟩ := hsr.dec HLS.out.inv.ins HRL.out
    have hlq := encR'_len hRB
    have hbs6 : Bs V6 ra rn (encR' q) := hBs6.sub (Sub.core _ _)
    have hln : (encR' q).length = rn := hbs6.1
    have hrnb : rn ≤ 200000 := by omega
    have HBS6 := hid_of hbs6
    have HL6 := hid_of hL6
    have hdec6 := decodeReply_any V6 ra rn rc (by omega) hrc1 (by simp only [maxLen] at hrc2; omega) _ hbs6
    rw [hq2] at hdec6
    obtain ⟨e1, e2, -, -⟩ := drF_inv hq2
    have HE1 := hid_of e1
    have HE2 := hid_of e2
    clear hsv hsr hRB hK6 hL6 hBs6 hrc1 hrc2 hlq hbs6 hln hq2 e1 e2 hbr5
    go_wp2_with fail
    refine hdec6.mono ?_
    rintro e V7 ⟨rep2, rfl, hx7, hc7⟩
    dsimp only
    have HX7 := hid_of hx7
    have HC7 := hid_of (hc7 rfl)
    clear hx7 hc7 hdec6
    go_upto_region 15 with fail
    refine wp_world (fun V' => V7.Extends V' ∧ blk V' V7.heap.size = some (Reply.enc rep2)) ⟨?_, ?_⟩ ?_
    · first | exact extends_alloc (ext_Ext (Ext.refl _)) _ | exact (Side.put (D := fun k => k = V7.heap.size) (Side.refl _ _) rfl _).extends (extends_alloc (ext_Ext (Ext.refl _)) _) (fun k hk => by have hk' : k = V7.heap.size := hk; omega)
    · first | (rw [blk_put, if_pos rfl, blk_alloc, if_pos rfl]; rfl) | (rw [blk_alloc, if_pos rfl])
    rintro V8 ⟨hx8, hb9⟩
    have HX8 := hid_of hx8
    obtain ⟨b9, e9⟩ : ∃ b9, b9 = V7.heap.size := ⟨_, rfl⟩
    rw [← e9] at hb9 ⊢
    have henc := encodeReply_any V8 rep2 q2 (HC7.out.sub (Sub.ext hx8)) HE2.out
    rw [HE1.out] at henc
    clear e9 hx8
    go_wp2_with fail
    refine henc.mono ?_
    rintro e V9 ⟨ea, en, ec, rfl, hO9⟩
    dsimp only
    have hen : en = rn := by rw [hO9.2.2, HBS6.out.1]
    subst hen
    have hsame := sameBytes_eq V9 ea ra en ec rc (by omega) _ hO9.bs (HBS6.out.grow ((HX7.out.trans HX8.out).trans hO9.2.1))
    have HJ' : Hid (∀ n, ∃ s O g, LS Ob W1 bs (1000 + 10 * ((i + 1 : Nat) : Int)) s O g (V9.drewN n)) := fun n => by
      have e9 : (1000 + 10 * ((i + 1 : Nat) : Int)) = 1000 + 10 * (i : Int) + 10 := by omega
      exact ⟨s', _, g', by rw [e9]; exact (HL6.out.grow ((HX7.out.trans HX8.out).trans hO9.2.1)).drewN n⟩
    clear henc hO9 HL6 HBS6 hb9
    go_wp2_with fail
    refine hsame.mono ?_
    rintro e V10 ⟨rfl, kk, rfl⟩
    dsimp only
    clear hsame
    go_wp2_with fail
    refine ⟨rfl, rfl, ⟨rfl, rfl, i + 1, by omega, ?_, HJ'.out kk⟩, ?_⟩
    · show Value.int .i64 _ = _
      go_num
    · show N - (intOf (Value.int .i64 _)).toNat < N - (intOf (F 5)).toNat
      rw [H5.out]
      simp [intOf]; omega
end Go.Proofs.Qxb6500787a
