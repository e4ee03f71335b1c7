import Derived.Test.Qxb6500787aGreatBf
import Derived.Test.Qxb6500787aGreatYb

import Derived.StillTailTactics
import Derived.Deep.QuietTactic
import Derived.BigQuiet
import Derived.Deep.RegionHeld
import Derived.Deep.CutRange
import Derived.Laws.ResultCell
import Derived.Laws.Rows
import Derived.DeepKeys
import Derived.DataBytes
import Derived.Laws.StructEq
import Derived.Laws.AppendOwn
import Derived.Laws.MakeOwn
import Derived.Lib.AppendStr
set_option linter.unusedSimpArgs false
set_option linter.unusedVariables false
namespace Go.Proofs.Qxb6500787aGreat
open Go.RowKit Go.Blk
attribute [local go_sem ↓] execOp_load execOp_store execOp_alloc
attribute [local go_sem] Tryz.ld26 Tryz.st26 Tryz.ld27 Tryz.st27 Tryz.ld28 Tryz.st28 Tryz.ld3 Tryz.st3 Tryz.ld29 Tryz.st29 Tryz.ld44 Tryz.st44 Tryz.ld4 Tryz.st4 Tryz.ld50 Tryz.st50 Tryz.ld32 Tryz.st32 Tryz.ld49 Tryz.st49 Tryz.ld68 Tryz.st68 Tryz.ld9 Tryz.st9 Tryz.ld40 Tryz.st40 Tryz.ld138 Tryz.st138 Tryz.ld139 Tryz.st139 Tryz.ld146 Tryz.st146 Tryz.ld183 Tryz.st183 Tryz.ld184 Tryz.st184 Tryz.ld192 Tryz.st192 Tryz.ld195 Tryz.st195 Tryz.ld217 Tryz.st217 Tryz.ld159 Tryz.st159 Tryz.ld142 Tryz.st142 Tryz.ld2 Tryz.st2 Tryz.ld5 Tryz.st5 Tryz.ld12 Tryz.st12 Tryz.ld21 Tryz.st21 Tryz.ld22 Tryz.st22 Tryz.ld24 Tryz.st24 Tryz.ld58 Tryz.st58 Tryz.ld97 Tryz.st97 Tryz.ld101 Tryz.st101 Tryz.ld116 Tryz.st116 Tryz.ld121 Tryz.st121 Tryz.ld135 Tryz.st135 Tryz.ld136 Tryz.st136 Tryz.ld143 Tryz.st143 Tryz.ld148 Tryz.st148 Tryz.ld154 Tryz.st154 Tryz.ld173 Tryz.st173 Tryz.ld187 Tryz.st187 Tryz.ld222 Tryz.st222 Tryz.ld241 Tryz.st241 Tryz.ld248 Tryz.st248 Tryz.ld268 Tryz.st268 Tryz.ld272 Tryz.st272 Tryz.ld153 Tryz.st153 Tryz.ld255 Tryz.st255 Tryz.ld256 Tryz.st256 Tryz.ld129 Tryz.st129 Tryz.ld152 Tryz.st152 Tryz.ld31 Tryz.st31 Tryz.ld46 Tryz.st46 Tryz.ld52 Tryz.st52 Tryz.ld54 Tryz.st54 Tryz.ld60 Tryz.st60 Tryz.ld70 Tryz.st70 Tryz.ld74 Tryz.st74 Tryz.ld93 Tryz.st93 Tryz.ld141 Tryz.st141 Tryz.ld151 Tryz.st151 Tryz.ld170 Tryz.st170 Tryz.ld186 Tryz.st186 Tryz.ld189 Tryz.st189 Tryz.ld194 Tryz.st194 Tryz.ld197 Tryz.st197 Tryz.ld219 Tryz.st219 Tryz.ld224 Tryz.st224 Tryz.ld230 Tryz.st230 Tryz.ld235 Tryz.st235 Tryz.ld243 Tryz.st243 Tryz.ld247 Tryz.st247 Tryz.ld252 Tryz.st252 Tryz.ld258 Tryz.st258 Tryz.al153 Tryz.al255 Tryz.al256 Tryz.al129 Tryz.al152 Tryz.al31 Tryz.al46 Tryz.al52 Tryz.al54 Tryz.al60 Tryz.al70 Tryz.al74 Tryz.al93 Tryz.al141 Tryz.al151 Tryz.al170 Tryz.al186 Tryz.al189 Tryz.al194 Tryz.al197 Tryz.al219 Tryz.al224 Tryz.al230 Tryz.al235 Tryz.al243 Tryz.al247 Tryz.al252 Tryz.al258
attribute [local go_sem] Request.length_enc Request.ok_enc Request.all_get Request.all_set Request.kind_get Request.kind_set Request.blob_get Request.blob_set Request.items_get Request.items_set Request.pred_get Request.pred_set Request.slots_get Request.slots_set Trace.length_enc Trace.ok_enc Trace.all_get Trace.all_set Trace.op_get Trace.op_set Trace.calls_get Trace.calls_set Item.length_enc Item.ok_enc Item.all_get Item.all_set Item.del_get Item.del_set Item.pred_get Item.pred_set Item.args_get Item.args_set Reply.length_enc Reply.ok_enc Reply.all_get Reply.all_set Reply.code_get Reply.code_set Reply.kind_get Reply.kind_set Reply.index_get Reply.index_set Reply.yes_get Reply.yes_set Reply.preds_get Reply.preds_set Reply.rules_get Reply.rules_set Reply.arity_get Reply.arity_set Reply.rows_get Reply.rows_set Reply.fact_get Reply.fact_set Reply.fact_del_get Reply.fact_del_set Reply.fact_pred_get Reply.fact_pred_set Reply.fact_args_get Reply.fact_args_set GEntry.length_enc GEntry.ok_enc GEntry.all_get GEntry.all_set GEntry.seq_get GEntry.seq_set GEntry.kind_get GEntry.kind_set GEntry.code_get GEntry.code_set GOp.length_enc GOp.ok_enc GOp.all_get GOp.all_set GOp.kind_get GOp.kind_set GOp.raw_get GOp.raw_set Reader.length_enc Reader.ok_enc Reader.all_get Reader.all_set Reader.buf_get Reader.buf_set Reader.at__get Reader.at__set Slot.length_enc Slot.ok_enc Slot.all_get Slot.all_set Slot.bound_get Slot.bound_set Slot.name_get Slot.name_set Session.length_enc Session.ok_enc Session.all_get Session.all_set Session.svc_get Session.svc_set Session.buf_get Session.buf_set Session.closed_get Session.closed_set GProgram.length_enc GProgram.ok_enc GProgram.all_get GProgram.all_set GProgram.pool_get GProgram.pool_set GProgram.preds_get GProgram.preds_set GProgram.rules_get GProgram.rules_set GProgram.strata_get GProgram.strata_set PredInfo.length_enc PredInfo.ok_enc PredInfo.all_get PredInfo.all_set PredInfo.arity_get PredInfo.arity_set PredInfo.base_get PredInfo.base_set PredInfo.stratum_get PredInfo.stratum_set Change.length_enc Change.ok_enc Change.all_get Change.all_set Change.del_get Change.del_set Change.pred_get Change.pred_set Change.t_get Change.t_set Store.length_enc Store.ok_enc Store.all_get Store.all_set Store.names_get Store.names_set Store.arity_get Store.arity_set Store.rows_get Store.rows_set Src.length_enc Src.ok_enc Src.all_get Src.all_set Src.b_get Src.b_set Src.at__get Src.at__set Atom.length_enc Atom.ok_enc Atom.all_get Atom.all_set Atom.pred_get Atom.pred_set Atom.args_get Atom.args_set GRule.length_enc GRule.ok_enc GRule.all_get GRule.all_set GRule.head_get GRule.head_set GRule.body_get GRule.body_set GRule.head_pred_get GRule.head_pred_set GRule.head_args_get GRule.head_args_set Cert.length_enc Cert.ok_enc Cert.all_get Cert.all_set Cert.names_get Cert.names_set Cert.nodes_get Cert.nodes_set Fact.length_enc Fact.ok_enc Fact.all_get Fact.all_set Fact.pred_get Fact.pred_set Fact.t_get Fact.t_set Literal.length_enc Literal.ok_enc Literal.all_get Literal.all_set Literal.neg_get Literal.neg_set Literal.atom_get Literal.atom_set Literal.atom_pred_get Literal.atom_pred_set Literal.atom_args_get Literal.atom_args_set Engine.length_enc Engine.ok_enc Engine.all_get Engine.all_set Engine.prog_get Engine.prog_set Engine.st_get Engine.st_set SrcCertm.length_enc SrcCertm.ok_enc SrcCertm.all_get SrcCertm.all_set SrcCertm.b_get SrcCertm.b_set SrcCertm.at__get SrcCertm.at__set GNode.length_enc GNode.ok_enc GNode.all_get GNode.all_set GNode.rule_get GNode.rule_set GNode.pred_get GNode.pred_set GNode.vals_get GNode.vals_set GNode.refs_get GNode.refs_set Term.length_enc Term.ok_enc Term.all_get Term.all_set Term.var_get Term.var_set Term.n_get Term.n_set Env.length_enc Env.ok_enc Env.all_get Env.all_set Env.val_get Env.val_set Env.set_get Env.set_set
attribute [local go_sem] size_put size_ext blk_put free_put blk_alloc free_alloc blk_drew free_drew blk_ext free_ext lookOr_some putOr_some segAt_some cellAt_some storeIn_some put_put put_alloc_new length_arr ok_arr_u8 ok_arr_u32 ok_arr_u64 ok_arr_i64 ok_arr_sl cellsV_agg cellsV_int cellsV_bool cellsV_string cellsV_pointer cellsV_slice cellsV_sl ok_int ok_bool ok_string ok_pointer ok_slice ok_sl toList_arr seg_arr set_arr nth_splice nth_splice0 seg_splice seg_splice0 splice_splice splice_splice0 length_splice_if
attribute [local go_sem ↓] execOp_box
attribute [local go_sem] box_run nth_arr_u8 put_arr_u8 blk_drewN free_drewN put_drewN blk_raw free_raw
theorem Tw.le {Ob : Own} {Wb : World} {b1 b2 : Nat} {m1 m2 m1' m2' : Int} {s t : Sv} {O1 O2 : Own} {g1 g2 : Nat} {V : World} (h : Tw Ob Wb b1 b2 m1 m2 s t O1 O2 g1 g2 V) (h1 : m1 ≤ m1') (h2 : m2 ≤ m2') : Tw Ob Wb b1 b2 m1' m2' s t O1 O2 g1 g2 V := ⟨h.os, h.tape, h.output, h.size, h.keep, h.l1.le h1, h.l2.le h2, h.no, h.x1, h.x2⟩
/-- The law's loop. -/
structure L7 (Ob : Own) (Wb : World) (b1 b2 i : Nat) (s t : Sv) (O1 O2 : Own) (g1 g2 : Nat) (V : World) : Prop where
  tw : Tw Ob Wb b1 b2 (1000 + 10 * (i : Int)) (1000 + 10 * (i : Int)) s t O1 O2 g1 g2 V
  sim : SvSim s t
  fst : SvF s
  img : s.img.length ≤ 65536
def l7I (Ob : Own) (Wb : World) (b1 b2 : Nat) (A : Option Addr) (N Cp : Nat) (f : Nat → Value) (V : World) : Prop := f 3 = .pointer (some ⟨b1, 0, none⟩) ∧ f 4 = .pointer (some ⟨b2, 0, none⟩) ∧ f 5 = .slice A N Cp ∧ ∃ i : Nat, i ≤ N ∧ f 6 = .int .i64 (i : Nat) ∧ Hid (∃ s t O1 O2 g1 g2, L7 Ob Wb b1 b2 i s t O1 O2 g1 g2 V)
set_option maxRecDepth 100000 in
theorem frame69l (f : Nat → Value) : frameN 69 f = #[f 0, f 1, f 2, f 3, f 4, f 5, f 6, f 7, f 8, f 9, f 10, f 11, f 12, f 13, f 14, f 15, f 16, f 17, f 18, f 19, f 20, f 21, f 22, f 23, f 24, f 25, f 26, f 27, f 28, f 29, f 30, f 31, f 32, f 33, f 34, f 35, f 36, f 37, f 38, f 39, f 40, f 41, f 42, f 43, f 44, f 45, f 46, f 47, f 48, f 49, f 50, f 51, f 52, f 53, f 54, f 55, f 56, f 57, f 58, f 59, f 60, f 61, f 62, f 63, f 64, f 65, f 66, f 67, f 68] := by kernel_rfl
set_option maxRecDepth 40000 in
set_option maxHeartbeats 2000000 in
theorem trace_walk (w : World) (a : Option Addr) (len cap : Nat) (g : Nat → GOp) (dt : Nat → List UInt8) (hS : ScriptAt w a len cap g dt) : Calls Tryz.prog 7 #[.slice a len cap] w fun e w' => e = .returned (.bool true) ∧ w.Extends w' := by
  have HS : Hid (ScriptAt w a len cap g dt) := hS
  have hS0 := hS
  clear hS
  go_enter Tryz.func7, Tryz.ntmps7
  go_wp2_with fail
  refine (small_any w a len cap g dt hS0).mono ?_
  rintro e w1 ⟨⟨r, rfl, hr⟩, rfl⟩
  clear hS0
  dsimp only
  cases r
  · go_wp2_with fail
    go_ret
    exact ⟨rfl, ext_Ext (Ext.refl _)⟩
  obtain ⟨hlen, hsz⟩ := hr rfl
  have HSZ : Hid (∀ i, i < len → (g i).raw.len ≤ 65536) := hsz
  clear hr hsz
  go_wp2_with fail
  refine (new_any w1).mono ?_
  rintro e w2 ⟨rfl, e2⟩
  dsimp only
  have HX2 : Hid (w1.Extends w2) := by
    show World.Extends _ _
    rw [e2]; exact extends_alloc (ext_Ext (Ext.refl _)) _
  have HB0 : Hid (blk w2 w1.heap.size = some newE ∧ free w2 w1.heap.size = true ∧ w2.heap.size = w1.heap.size + 1) := by
    show _ ∧ _ ∧ _
    rw [e2]
    exact ⟨by rw [blk_alloc, if_pos rfl], by rw [free_alloc, if_pos rfl], World.size_alloc _ _⟩
  obtain ⟨b1, eb1⟩ : ∃ b1, b1 = w1.heap.size := ⟨_, rfl⟩
  rw [← eb1] at HB0 ⊢
  have HE1 := hid_of eb1
  clear e2 eb1
  go_wp2_with fail
  refine (new_any w2).mono ?_
  rintro e w3 ⟨rfl, e3⟩
  dsimp only
  have HX3 : Hid (w2.Extends w3) := by
    show World.Extends _ _
    rw [e3]; exact extends_alloc (ext_Ext (Ext.refl _)) _
  have HB3 : Hid (blk w3 w2.heap.size = some newE ∧ free w3 w2.heap.size = true) := by
    show _ ∧ _
    rw [e3]
    exact ⟨by rw [blk_alloc, if_pos rfl], by rw [free_alloc, if_pos rfl]⟩
  have HS3 : Hid (ScriptAt w3 a len cap g dt) := HS.out.mono (HX2.out.trans HX3.out)
  obtain ⟨b2, eb2⟩ : ∃ b2, b2 = w2.heap.size := ⟨_, rfl⟩
  rw [← eb2] at HB3 ⊢
  have HE2 := hid_of eb2
  clear e3 eb2
  go_wp2_with fail
  refine (sends_any w3 a len cap g dt HS3.out hlen).mono ?_
  rintro e W1 ⟨A, N, Cp, L, rfl, hat⟩
  dsimp only
  have hbeg := beg2_of (b1 := b1) (b2 := b2) HS.out hlen HSZ.out (HX2.out.trans HX3.out) ((HX3.out.blk (blk_lt HB0.out.1)).trans HB0.out.1) ((free_of_heap (HX3.out.block b1 (blk_lt HB0.out.1))).trans HB0.out.2.1) HB3.out.1 HB3.out.2 (by rw [HE1.out]; exact Nat.le_refl _) (by have h1 := HE1.out; have h2 := HE2.out; have h3 := HB0.out.2.2; omega) (by have h1 := HE1.out; have h2 := HE2.out; have h3 := HB0.out.2.2; omega) hat
  obtain ⟨Ob, hOb⟩ : ∃ Ob, Ob = lab2 b1 b2 := ⟨_, rfl⟩
  rw [← hOb] at hbeg
  have HBEG := hid_of hbeg
  have hN : N ≤ 65536 := hbeg.nn
  clear hat hbeg hOb HS3 HSZ HX2 HX3 HB0 HB3 HE1 HE2
  go_upto_region 6 with fail
  refine wp_loop_f 69 (l7I Ob W1 b1 b2 A N Cp) (fun f _ => N - (intOf (f 6)).toNat) rfl ⟨rfl, rfl, rfl, 0, by omega, rfl, ⟨Sv.zero, Sv.zero, _, _, 0, 0, by simpa using HBEG.out.tw, SvSim.zero, (fun t h => by cases h), Nat.zero_le _⟩⟩ ?_
  intro F V hrel
  obtain ⟨f3, f4, f5, i, hi, f6, HJ⟩ := hrel
  have H6 := hid_of f6
  rw [frame69l, f3, f4, f5, f6]
  clear f3 f4 f5 f6
  obtain ⟨s, t, O1, O2, g1, g2, hL7⟩ := HJ.out
  have HA := hid_of hL7
  clear HJ hL7
  by_cases hin : i < N
  rotate_left 1
  · have hin' : ¬ (i : Int) < (N : Int) := by omega
    have hTw := HA.out.tw
    have hI1 := hTw.l1.inv
    have hI2 := hTw.l2.inv
    have HSIM : Hid (imgF t = imgF s ∧ inUse t = inUse s ∧ lsF t = lsF s) := ⟨(img_sim HA.out.sim).symm, (use_sim HA.out.sim hI1 hI2).symm, (ls_sim HA.out.sim hI1 hI2).symm⟩
    have HLE : Hid (∀ r ∈ lsF s, r.length ≤ 1000000000) := fun r hr => Nat.le_trans (lsF_le hI1 hr) (by decide)
    have himl : s.img.length ≤ 65536 := HA.out.img
    have himt : t.img.length ≤ 65536 := by rw [← HA.out.sim.img]; exact himl
    have hil : (imgF s).length ≤ 1000000000000 := by
      unfold imgF
      cases s.inst with
      | none => exact Nat.zero_le _
      | some _ => exact Nat.le_trans himl (by decide)
    have him := image_any hTw.l1.sv (by omega)
    have HT := hid_of hTw
    have HIT : Hid (t.img.length ≤ 1000000) := by show _ ≤ _; omega
    clear hTw hI1 hI2 himl himt HA
    go_wp2_with fail
    refine him.mono ?_
    rintro e V1 ⟨a1, c1, rfl, hB1, hx1⟩
    dsimp only
    obtain ⟨P1, P2, hT1⟩ := HT.out.grow hx1
    have him2 := image_any hT1.l2.sv HIT.out
    rw [HSIM.out.1] at him2
    have HT1 := hid_of hT1
    have HB1 := hid_of hB1
    obtain ⟨xs, exs⟩ : ∃ xs, xs = imgF s := ⟨_, rfl⟩
    rw [← exs] at him2 HB1 hil
    have hxn : (imgF s).length = xs.length := by rw [exs]
    rw [hxn]
    clear him hx1 hT1 hB1 exs HT hxn
    go_wp2_with fail
    refine him2.mono ?_
    rintro e V2 ⟨a2, c2, rfl, hB2, hx2⟩
    dsimp only
    obtain ⟨P3, P4, hT2⟩ := HT1.out.grow hx2
    have hsb := sameBytes_eq V2 a1 a2 xs.length c1 c2 hil xs (HB1.out.grow hx2) hB2
    have HT2 := hid_of hT2
    clear him2 hx2 hT2 hB2 HT1 HB1
    go_wp2_with fail
    refine hsb.mono ?_
    rintro e V3 ⟨rfl, k3, rfl⟩
    dsimp only
    have hT3 := HT2.out.drewN k3
    obtain ⟨V3, hV3⟩ : ∃ V3, V3 = V2.drewN k3 := ⟨_, rfl⟩
    rw [← hV3] at hT3 ⊢
    have hu1 := inUse_any hT3.l1.sv
    have hu2 := inUse_any hT3.l2.sv
    rw [HSIM.out.2.1] at hu2
    obtain ⟨u, eu⟩ : ∃ u, u = inUse s := ⟨_, rfl⟩
    rw [← eu] at hu1 hu2
    have hl1 := listing_any hT3.l1 (by omega)
    have HT3 := hid_of hT3
    clear hsb hV3 eu hT3 HT2
    go_wp2_with fail
    refine hu1.mono ?_
    rintro e V4 ⟨rfl, rfl⟩
    dsimp only
    clear hu1
    go_wp2_with fail
    refine hu2.mono ?_
    rintro e V5 ⟨rfl, rfl⟩
    dsimp only
    clear hu2
    go_wp2_with fail
    refine hl1.mono ?_
    rintro e V6 ⟨la, ln, lc, s', P5, g5, rfl, hln, hln64, -, -, hL6, hLst⟩
    dsimp only
    obtain ⟨P6, hT6⟩ := HT3.out.step hL6
    have hl2 := listing_any hT6.l2 (by omega)
    have HLST := hid_of (hLst.sub hT6.cores)
    have HT6 := hid_of hT6
    have HLN := hid_of hln
    clear hl1 hln hL6 hLst hT6 HT3
    go_wp2_with fail
    refine hl2.mono ?_
    rintro e V7 ⟨la2, ln2, lc2, t', P7, g7, rfl, hln2, -, -, -, hL7, hLst2⟩
    dsimp only
    rw [HSIM.out.2.2] at hln2 hLst2
    obtain rfl : ln2 = ln := by rw [hln2, HLN.out]
    obtain ⟨P8, hT8⟩ := HT6.out.swap.step hL7
    have HX7 : Hid (w1.Extends V7) := hT8.ext HBEG.out.ex HBEG.out.old
    have hsl := sameListing_eq V7 la la2 ln2 lc lc2 (lsF s) ((HLST.out.sub hL7.kp.sub).sub (Sub.core _ _)) (hLst2.sub (Sub.core _ _)) (by omega) HLE.out
    clear hl2 hln2 hL7 hLst2 hT8 HT6 HLST HLN
    go_wp2_with fail
    refine hsl.mono ?_
    rintro e V8 ⟨rfl, hx8⟩
    dsimp only
    have HX8 : Hid (w1.Extends V8) := HX7.out.trans hx8
    clear hsl hx8
    go_wp2_with fail
    go_ret
    exact ⟨rfl, HX8.out⟩
  have hin' : (i : Int) < (N : Int) := by omega
  have i0 : (0 : Int) ≤ (i : Int) := by omega
  have i2 : ((i : Int)).toNat = i := by omega
  obtain ⟨x, raw, br, CR, rfl, hbr, hobr, hcl, hnr, hrl, hdx⟩ := HBEG.out.at hin
  have hTw := HA.out.tw
  obtain ⟨hbrV, -⟩ := hTw.blk hbr hobr
  have HRL := hid_of hrl
  have HDX := hid_of hdx
  have hsv := hTw.l1.serve (by omega) x raw (hdx.sub hTw.sub) hrl
  have HBR : Hid (blk W1 br = some CR ∧ Ob br = .no) := ⟨hbr, hobr⟩
  obtain ⟨xa, xn, xc⟩ := x
  dsimp only at hnr hsv
  clear hTw hbr hobr hdx hrl
  go_wp2_with fail
  refine hsv.mono ?_
  rintro e V4 ⟨ra, rn, rc, q, s', P1, g3, rfl, hsr, hRB, hK, hL4, hBs, hrc1, hrc2⟩
  dsimp only
  have hTw := HA.out.tw
  obtain ⟨P2, hT4⟩ := hTw.step hL4
  have hkc := svR.k (s' := s') hTw.l1.inv.ins HRL.out hsr.choose_spec.1
  have hsim := svR.sim hTw.l1.inv HA.out.fst hTw.l2.inv HA.out.sim HRL.out hsr
  have HFI : Hid (SvF s' ∧ s'.img.length ≤ 65536) := ⟨(svR.ek hTw.l1.inv HA.out.fst HRL.out hsr).fst, hsr.imgl HRL.out HA.out.img⟩
  obtain ⟨kd, hkd⟩ : ∃ kd : Nat, q.kind = (kd : Int) := ⟨q.kind.toNat, by have := hkc.1; omega⟩
  obtain ⟨cd, hcd⟩ : ∃ cd : Nat, q.code = (cd : Int) := ⟨q.code.toNat, by have := hkc.2.1; omega⟩
  have hqle := encR'_le hkc.2.2
  obtain ⟨rb, ro, RC, rfl, w2c, w3, w4, w5, w6⟩ := rep_two hBs hkd hcd (by have := hkc.1; omega) (by have := hkc.2.1; omega)
  obtain ⟨w2, hrno⟩ := core_blk w2c
  have hwc : IntKind.i64.wrap (cd : Int) = (cd : Int) := by
    have h1 := hkc.2.1
    rw [hcd] at h1
    rw [IntKind.wrap_i64]; omega
  have hwk : IntKind.i64.wrap (kd : Int) = (kd : Int) := by
    have h1 := hkc.1
    rw [hkd] at h1
    rw [IntKind.wrap_i64]; omega
  have hk8 : (0 : Int) ≤ (kd : Int) ∧ (kd : Int) < 8 := by have h1 := hkc.1; rw [hkd] at h1; exact h1
  have l1 : ro < RC.length := by omega
  have l2 : ro + 1 < RC.length := by omega
  have l3 : (0 : Int) < (rn : Int) := by omega
  have l4 : (1 : Int) < (rn : Int) := by omega
  have hbrV4 : blk V4 br = some CR := (hT4.blk HBR.out.1 HBR.out.2).1
  have HT4 := hid_of hT4
  have HSIM := hid_of hsim
  have HBS := hid_of (hBs.sub hT4.cores)
  have HQ : Hid (q.kind = (kd : Int) ∧ q.code = (cd : Int)) := ⟨hkd, hcd⟩
  have hrnl : rn ≤ 1000000000000 := by have h9 : (encR' q).length = rn := hBs.1; omega
  have HSK : Hid (¬ (q.code = 0 ∧ 1 ≤ q.kind ∧ q.kind ≤ 4) → ∃ s t O1 O2 g1 g2, L7 Ob W1 b1 b2 (i + 1) s t O1 O2 g1 g2 V4) := fun h9 => ⟨s', t, P1, P2, g3, g2, HT4.out.le (by omega) (by omega), HSIM.out.1 h9, HFI.out.1, HFI.out.2⟩
  clear hTw hT4 hsv hsr hRB hK hL4 hBs hrc1 hrc2 hkc hsim hqle hkd hcd w2c hrno w6 hbrV
  by_cases hc0 : cd = 0
  rotate_left 1
  · have cb : ((cd : Int) == 0) = false := by simp; omega
    have HJ0 : Hid (∃ s t O1 O2 g1 g2, L7 Ob W1 b1 b2 (i + 1) s t O1 O2 g1 g2 V4) := HSK.out (fun h9 => by have h8 := HQ.out.2; omega)
    clear HSK HSIM HT4 HBS hc0
    go_wp2_with fail
    refine ⟨rfl, rfl, ⟨rfl, rfl, rfl, i + 1, by omega, ?_, HJ0.out⟩, ?_⟩
    · show Value.int .i64 _ = _
      go_num
    · show N - (intOf (Value.int .i64 _)).toNat < N - (intOf (F 6)).toNat
      rw [H6.out]
      simp [intOf]; omega
  have w4' : nth RC ro = some (.int .u8 0) := by rw [w4, hc0]; rfl
  have HC0 : Hid (q.code = 0) := by show q.code = 0; rw [HQ.out.2, hc0]; rfl
  clear w4 hwc hc0
  go_wp2_with fail
  refine (writes_any V4 (kd : Int) hk8).mono ?_
  rintro e V5 ⟨rfl, rfl⟩
  dsimp only
  by_cases hw : 1 ≤ (kd : Int) ∧ (kd : Int) ≤ 4
  rotate_left 1
  · have hwb : decide (1 ≤ (kd : Int) ∧ (kd : Int) ≤ 4) = false := decide_eq_false hw
    rw [hwb]
    have HJ0 : Hid (∃ s t O1 O2 g1 g2, L7 Ob W1 b1 b2 (i + 1) s t O1 O2 g1 g2 V5) := HSK.out (fun h9 => hw (by have h8 := HQ.out.1; omega))
    clear HSK HSIM HT4 HBS hw hwb
    go_wp2_with fail
    refine ⟨rfl, rfl, ⟨rfl, rfl, rfl, i + 1, by omega, ?_, HJ0.out⟩, ?_⟩
    · show Value.int .i64 _ = _
      go_num
    · show N - (intOf (Value.int .i64 _)).toNat < N - (intOf (F 6)).toNat
      rw [H6.out]
      simp [intOf]; omega
  have hwb : decide (1 ≤ (kd : Int) ∧ (kd : Int) ≤ 4) = true := decide_eq_true hw
  rw [hwb]
  have hT4 := HT4.out
  have hsv := hT4.l2.serve (by omega) ⟨xa, xn, xc⟩ raw ((HDX.out.sub hT4.sub).sub hT4.cores) HRL.out
  dsimp only at hsv
  have HW1 : Hid (1 ≤ q.kind ∧ q.kind ≤ 4) := by show _ ∧ _; rw [HQ.out.1]; exact hw
  clear hT4 hwb HSK hw
  go_wp2_with fail
  refine hsv.mono ?_
  rintro e V6 ⟨ta, tn, tc, q2, t', P3, g4, rfl, hsr2, hRB2, hK2, hL6, hBs2, hrc3, hrc4⟩
  dsimp only
  obtain ⟨hqq, hsim2⟩ := HSIM.out.2 HC0.out HW1.out.1 HW1.out.2 q2 t' hsr2
  rw [hqq] at hBs2
  obtain rfl : tn = rn := hBs2.1.symm.trans HBS.out.1
  obtain ⟨P4, hT6⟩ := HT4.out.swap.step hL6
  have hsb := sameBytes_eq V6 ta (some ⟨rb, ro, none⟩) tn tc rc hrnl (encR' q) (hBs2.sub (Sub.core _ _)) ((HBS.out.sub hK2.sub).sub (Sub.core _ _))
  have HJ1 : Hid (∀ n, ∃ s t O1 O2 g1 g2, L7 Ob W1 b1 b2 (i + 1) s t O1 O2 g1 g2 (V6.drewN n)) := fun n => ⟨s', t', P4, P3, g3, g4, (hT6.swap.le (by omega) (by omega)).drewN n, hsim2, HFI.out.1, HFI.out.2⟩
  clear hsv hsr2 hRB2 hK2 hL6 hBs2 hrc3 hrc4 hsim2 hT6 HT4 HSIM hqq HBS
  go_wp2_with fail
  refine hsb.mono ?_
  rintro e V7 ⟨rfl, k7, rfl⟩
  dsimp only
  have HJ0 := hid_of (HJ1.out k7)
  clear hsb HJ1
  go_wp2_with fail
  refine ⟨rfl, rfl, ⟨rfl, rfl, rfl, i + 1, by omega, ?_, HJ0.out⟩, ?_⟩
  · show Value.int .i64 _ = _
    go_num
  · show N - (intOf (Value.int .i64 _)).toNat < N - (intOf (F 6)).toNat
    rw [H6.out]
    simp [intOf]; omega
end Go.Proofs.Qxb6500787aGreat
