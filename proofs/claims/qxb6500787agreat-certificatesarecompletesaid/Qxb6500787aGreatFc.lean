import Derived.Test.Qxb6500787aGreatFb

import Derived.StillTailTactics
import Derived.Deep.QuietTactic
import Derived.BigQuiet
import Derived.Deep.RegionHeld
import Derived.Deep.CutRange
import Derived.Laws.ResultCell
import Derived.Laws.Rows
import Derived.DeepKeys
import Derived.DataBytes
import Derived.Laws.StructEq
import Derived.Laws.AppendOwn
import Derived.Laws.MakeOwn
import Derived.Lib.AppendStr
set_option linter.unusedSimpArgs false
set_option linter.unusedVariables false
namespace Go.Proofs.Qxb6500787aGreat
open Go.RowKit Go.Blk
attribute [local go_sem ↓] execOp_load execOp_store execOp_alloc
attribute [local go_sem] Tryz.ld26 Tryz.st26 Tryz.ld27 Tryz.st27 Tryz.ld28 Tryz.st28 Tryz.ld3 Tryz.st3 Tryz.ld29 Tryz.st29 Tryz.ld44 Tryz.st44 Tryz.ld4 Tryz.st4 Tryz.ld50 Tryz.st50 Tryz.ld32 Tryz.st32 Tryz.ld49 Tryz.st49 Tryz.ld68 Tryz.st68 Tryz.ld9 Tryz.st9 Tryz.ld40 Tryz.st40 Tryz.ld138 Tryz.st138 Tryz.ld139 Tryz.st139 Tryz.ld146 Tryz.st146 Tryz.ld183 Tryz.st183 Tryz.ld184 Tryz.st184 Tryz.ld192 Tryz.st192 Tryz.ld195 Tryz.st195 Tryz.ld217 Tryz.st217 Tryz.ld159 Tryz.st159 Tryz.ld142 Tryz.st142 Tryz.ld2 Tryz.st2 Tryz.ld5 Tryz.st5 Tryz.ld12 Tryz.st12 Tryz.ld21 Tryz.st21 Tryz.ld22 Tryz.st22 Tryz.ld24 Tryz.st24 Tryz.ld58 Tryz.st58 Tryz.ld97 Tryz.st97 Tryz.ld101 Tryz.st101 Tryz.ld116 Tryz.st116 Tryz.ld121 Tryz.st121 Tryz.ld135 Tryz.st135 Tryz.ld136 Tryz.st136 Tryz.ld143 Tryz.st143 Tryz.ld148 Tryz.st148 Tryz.ld154 Tryz.st154 Tryz.ld173 Tryz.st173 Tryz.ld187 Tryz.st187 Tryz.ld222 Tryz.st222 Tryz.ld241 Tryz.st241 Tryz.ld248 Tryz.st248 Tryz.ld268 Tryz.st268 Tryz.ld272 Tryz.st272 Tryz.ld153 Tryz.st153 Tryz.ld255 Tryz.st255 Tryz.ld256 Tryz.st256 Tryz.ld129 Tryz.st129 Tryz.ld152 Tryz.st152 Tryz.ld31 Tryz.st31 Tryz.ld46 Tryz.st46 Tryz.ld52 Tryz.st52 Tryz.ld54 Tryz.st54 Tryz.ld60 Tryz.st60 Tryz.ld70 Tryz.st70 Tryz.ld74 Tryz.st74 Tryz.ld93 Tryz.st93 Tryz.ld141 Tryz.st141 Tryz.ld151 Tryz.st151 Tryz.ld170 Tryz.st170 Tryz.ld186 Tryz.st186 Tryz.ld189 Tryz.st189 Tryz.ld194 Tryz.st194 Tryz.ld197 Tryz.st197 Tryz.ld219 Tryz.st219 Tryz.ld224 Tryz.st224 Tryz.ld230 Tryz.st230 Tryz.ld235 Tryz.st235 Tryz.ld243 Tryz.st243 Tryz.ld247 Tryz.st247 Tryz.ld252 Tryz.st252 Tryz.ld258 Tryz.st258 Tryz.al153 Tryz.al255 Tryz.al256 Tryz.al129 Tryz.al152 Tryz.al31 Tryz.al46 Tryz.al52 Tryz.al54 Tryz.al60 Tryz.al70 Tryz.al74 Tryz.al93 Tryz.al141 Tryz.al151 Tryz.al170 Tryz.al186 Tryz.al189 Tryz.al194 Tryz.al197 Tryz.al219 Tryz.al224 Tryz.al230 Tryz.al235 Tryz.al243 Tryz.al247 Tryz.al252 Tryz.al258
attribute [local go_sem] Request.length_enc Request.ok_enc Request.all_get Request.all_set Request.kind_get Request.kind_set Request.blob_get Request.blob_set Request.items_get Request.items_set Request.pred_get Request.pred_set Request.slots_get Request.slots_set Trace.length_enc Trace.ok_enc Trace.all_get Trace.all_set Trace.op_get Trace.op_set Trace.calls_get Trace.calls_set Item.length_enc Item.ok_enc Item.all_get Item.all_set Item.del_get Item.del_set Item.pred_get Item.pred_set Item.args_get Item.args_set Reply.length_enc Reply.ok_enc Reply.all_get Reply.all_set Reply.code_get Reply.code_set Reply.kind_get Reply.kind_set Reply.index_get Reply.index_set Reply.yes_get Reply.yes_set Reply.preds_get Reply.preds_set Reply.rules_get Reply.rules_set Reply.arity_get Reply.arity_set Reply.rows_get Reply.rows_set Reply.fact_get Reply.fact_set Reply.fact_del_get Reply.fact_del_set Reply.fact_pred_get Reply.fact_pred_set Reply.fact_args_get Reply.fact_args_set GEntry.length_enc GEntry.ok_enc GEntry.all_get GEntry.all_set GEntry.seq_get GEntry.seq_set GEntry.kind_get GEntry.kind_set GEntry.code_get GEntry.code_set GOp.length_enc GOp.ok_enc GOp.all_get GOp.all_set GOp.kind_get GOp.kind_set GOp.raw_get GOp.raw_set Reader.length_enc Reader.ok_enc Reader.all_get Reader.all_set Reader.buf_get Reader.buf_set Reader.at__get Reader.at__set Slot.length_enc Slot.ok_enc Slot.all_get Slot.all_set Slot.bound_get Slot.bound_set Slot.name_get Slot.name_set Session.length_enc Session.ok_enc Session.all_get Session.all_set Session.svc_get Session.svc_set Session.buf_get Session.buf_set Session.closed_get Session.closed_set GProgram.length_enc GProgram.ok_enc GProgram.all_get GProgram.all_set GProgram.pool_get GProgram.pool_set GProgram.preds_get GProgram.preds_set GProgram.rules_get GProgram.rules_set GProgram.strata_get GProgram.strata_set PredInfo.length_enc PredInfo.ok_enc PredInfo.all_get PredInfo.all_set PredInfo.arity_get PredInfo.arity_set PredInfo.base_get PredInfo.base_set PredInfo.stratum_get PredInfo.stratum_set Change.length_enc Change.ok_enc Change.all_get Change.all_set Change.del_get Change.del_set Change.pred_get Change.pred_set Change.t_get Change.t_set Store.length_enc Store.ok_enc Store.all_get Store.all_set Store.names_get Store.names_set Store.arity_get Store.arity_set Store.rows_get Store.rows_set Src.length_enc Src.ok_enc Src.all_get Src.all_set Src.b_get Src.b_set Src.at__get Src.at__set Atom.length_enc Atom.ok_enc Atom.all_get Atom.all_set Atom.pred_get Atom.pred_set Atom.args_get Atom.args_set GRule.length_enc GRule.ok_enc GRule.all_get GRule.all_set GRule.head_get GRule.head_set GRule.body_get GRule.body_set GRule.head_pred_get GRule.head_pred_set GRule.head_args_get GRule.head_args_set Cert.length_enc Cert.ok_enc Cert.all_get Cert.all_set Cert.names_get Cert.names_set Cert.nodes_get Cert.nodes_set Fact.length_enc Fact.ok_enc Fact.all_get Fact.all_set Fact.pred_get Fact.pred_set Fact.t_get Fact.t_set Literal.length_enc Literal.ok_enc Literal.all_get Literal.all_set Literal.neg_get Literal.neg_set Literal.atom_get Literal.atom_set Literal.atom_pred_get Literal.atom_pred_set Literal.atom_args_get Literal.atom_args_set Engine.length_enc Engine.ok_enc Engine.all_get Engine.all_set Engine.prog_get Engine.prog_set Engine.st_get Engine.st_set SrcCertm.length_enc SrcCertm.ok_enc SrcCertm.all_get SrcCertm.all_set SrcCertm.b_get SrcCertm.b_set SrcCertm.at__get SrcCertm.at__set GNode.length_enc GNode.ok_enc GNode.all_get GNode.all_set GNode.rule_get GNode.rule_set GNode.pred_get GNode.pred_set GNode.vals_get GNode.vals_set GNode.refs_get GNode.refs_set Term.length_enc Term.ok_enc Term.all_get Term.all_set Term.var_get Term.var_set Term.n_get Term.n_set Env.length_enc Env.ok_enc Env.all_get Env.all_set Env.val_get Env.val_set Env.set_get Env.set_set
attribute [local go_sem] size_put size_ext blk_put free_put blk_alloc free_alloc blk_drew free_drew blk_ext free_ext lookOr_some putOr_some segAt_some cellAt_some storeIn_some put_put put_alloc_new length_arr ok_arr_u8 ok_arr_u32 ok_arr_u64 ok_arr_i64 ok_arr_sl cellsV_agg cellsV_int cellsV_bool cellsV_string cellsV_pointer cellsV_slice cellsV_sl ok_int ok_bool ok_string ok_pointer ok_slice ok_sl toList_arr seg_arr set_arr nth_splice nth_splice0 seg_splice seg_splice0 splice_splice splice_splice0 length_splice_if
attribute [local go_sem ↓] execOp_box
attribute [local go_sem] box_run nth_arr_u8 put_arr_u8 blk_drewN free_drewN put_drewN blk_raw free_raw
attribute [local go_sem ↓] execOp_bslice
attribute [local go_sem] bslice31e
attribute [local go_sem ↓] execOp_build execOp_box
attribute [local go_sem] build168 box_run cl_len cl0
def ClPost2 (O : Own) (V : World) (bs : Nat) (m : Int) (s : Sv) (raw : List UInt8) (e : Ending) (V' : World) : Prop := ∃ rep q q' s' O' g', e = .returned (.tuple #[.agg (Reply.enc rep).toArray, .int .i64 q'.code]) ∧ svR s raw q s' ∧ RepB q ∧ drF (encR' q) = (0, q') ∧ LS O V bs (m + 10) s' O' g' V' ∧ rep.code = q'.code ∧ RepC V' rep q'
set_option maxRecDepth 20000 in
set_option maxHeartbeats 2000000 in
theorem call_rq {O : Own} {V : World} {bs : Nat} {m : Int} {s : Sv} {g : Nat} (h : LS O V bs m s O g V) (hm : 1000 ≤ m ∧ m ≤ 800000000) (bc : Nat) (hbc : blk V bc = some (clE bs)) (k : Int) (ba : Option Addr) (bn bk : Nat) (ia : Option Addr) (iN ic : Nat) (p : Int) (sa : Option Addr) (sn sc : Nat) (q : Rq) (hR : ∀ W, V.Extends W → RqC W k ba bn bk ia iN p sa sn q) (kk : Nat) (h127 : kk = 1 ∨ kk = 7 ∨ kk = 2) (pay : List UInt8) (hV : RqV kk q pay) (raw : List UInt8) (eraw : raw = [1, UInt8.ofNat kk, UInt8.ofNat (pay.length / 256), UInt8.ofNat pay.length] ++ pay) (hrl : raw.length ≤ 65536) : Calls Tryz.prog 87 #[.pointer (some ⟨bc, 0, none⟩), .agg (reqE k ba bn bk ia iN ic p sa sn sc).toArray] V (ClPost2 O V bs m s raw) := by
  obtain ⟨Q, hQ⟩ : ∃ Q, Q = ClPost2 O V bs m s raw := ⟨_, rfl⟩
  rw [← hQ]
  have HQ := hid_of hQ
  have HLS := hid_of h
  obtain ⟨RQ, eRQ⟩ : ∃ RQ, RQ = reqE k ba bn bk ia iN ic p sa sn sc := ⟨_, rfl⟩
  have hen : ∀ W, V.Extends W → Calls Tryz.prog 65 #[.agg RQ.toArray] W (EncPost W raw) := fun W hW => by
    rw [eRQ, eraw]
    exact encode_rq W k ba bn bk ia iN ic p sa sn sc q (hR W hW) kk h127 pay hV
  have hRQl : RQ.length = 5 := by rw [eRQ]; exact rq_len _ _ _ _ _ _ _ _ _ _ _
  have hRQo : okCells 5 RQ = true := by rw [eRQ]; exact Request.ok_enc _
  have hRQs : seg RQ 0 5 = RQ := seg_all _ _ hRQl
  rw [← eRQ]
  have HEN := hid_of hen
  have rz : Reply.zero.enc.length = 11 := Reply.length_enc _
  have HRL := hid_of hrl
  have HBC := hid_of hbc
  obtain ⟨J, hJ⟩ := lab_new O V.heap.size
  have HJ : Hid (∀ k, k < V.heap.size → O k ≠ .a 5 J) := fun k hk => hJ k hk J (Nat.le_refl _)
  clear hQ h hen eRQ hR hV eraw hrl hbc hJ
  go_enter Tryz.func87, Tryz.ntmps87
  go_upto_region 1 with fail
  refine wp_world (fun V' => V.Extends V' ∧ blk V' V.heap.size = some RQ ∧ blk V' (V.heap.size + 1) = some Reply.zero.enc ∧ free V' (V.heap.size + 1) = true) ?_ ?_
  · refine ⟨?_, ?_, ?_, ?_⟩
    · first | exact extends_alloc (extends_alloc (ext_Ext (Ext.refl _)) _) _ | trace_state
    · simp [blk_alloc, World.size_alloc]
    · simp [blk_alloc, World.size_alloc]
    · simp [free_alloc, World.size_alloc]
  rintro V1 ⟨hx1, hb3, hb4, hf4⟩
  obtain ⟨b3, e3⟩ : ∃ b3, b3 = V.heap.size := ⟨_, rfl⟩
  obtain ⟨b4, e4⟩ : ∃ b4, b4 = V.heap.size + 1 := ⟨_, rfl⟩
  try simp only [World.size_alloc]
  rw [← e4] at hb4 hf4 ⊢
  rw [← e3] at hb3 ⊢
  have hen1 := HEN.out V1 hx1
  have HX1 := hid_of hx1
  have HB4 : Hid (blk V1 b4 = some Reply.zero.enc ∧ free V1 b4 = true ∧ V.heap.size ≤ b4) := ⟨hb4, hf4, by omega⟩
  clear e3 e4 hx1
  go_wp2_with fail
  refine hen1.mono ?_
  rintro e V2 ⟨ea, en, ec, rfl, hOb⟩
  dsimp only
  have hx02 : V.Extends V2 := HX1.out.trans hOb.2.1
  have hL1 := HLS.out.frJ HJ.out (fr_new HX1.out (.a 5 J))
  have hL2 := hL1.grow hOb.2.1
  obtain ⟨O2, hO2⟩ : ∃ O2, O2 = lab (lab O V.heap.size (.a 5 J)) V1.heap.size .no := ⟨_, rfl⟩
  rw [← hO2] at hL2
  have hd2 : Dec2 (core O2 V2) ⟨ea, en, ec⟩ raw := by
    have h9 := bs_own hOb.1
    refine .inr ⟨bs_ge hOb.1 (fun k hk => by rw [hO2]; exact lab_ge hk), h9.2.1, h9.2.2, ?_⟩
    have h8 : raw.length = en := h9.1.1
    have h7 := HRL.out
    show en ≤ 65536
    omega
  have hsv := hL2.self.serve (by omega) _ _ hd2 HRL.out
  dsimp only at hsv
  have HK2 := hid_of hL2.kp
  have hb4' : blk V2 b4 = some Reply.zero.enc ∧ free V2 b4 = true ∧ O2 b4 = .a 5 J := ⟨(hOb.2.1.blk (blk_lt HB4.out.1)).trans HB4.out.1, (free_of_heap (hOb.2.1.block b4 (blk_lt HB4.out.1))).trans HB4.out.2.1, by rw [hO2, lab_lt (blk_lt HB4.out.1)]; exact lab_ge HB4.out.2.2⟩
  have HB42 := hid_of hb4'
  have hbc2 : blk V2 bc = some (clE bs) := (hx02.blk (blk_lt HBC.out)).trans HBC.out
  have HIV := hid_of hL2.inv
  clear hOb hx02 hL1 hL2 hO2 hd2 hen1 hb4 hf4 hb3 hb4' HX1 HB4 HBC
  go_wp2_with fail
  refine hsv.mono ?_
  rintro e V3 ⟨ra, rn, rc, q2, s', O3, g', rfl, hsr, hRB, hK, hL3, hBs, hrc1, hrc2⟩
  dsimp only
  obtain ⟨q', hdr⟩ := svR.dec HIV.out.ins HRL.out hsr
  have hrn : (encR' q2).length = rn := hBs.1
  have hrn2 := (encR'_le hRB).2
  have hdc := Nw.decodeReply_any V3 ra rn rc (by omega) hrc1 hrc2 (encR' q2) (hBs.sub (Sub.core _ _))
  rw [hdr] at hdc
  have hb43 : blk V3 b4 = some Reply.zero.enc ∧ free V3 b4 = true ∧ O3 b4 = .a 5 J := by
    obtain ⟨m1, m2⟩ := hK.keep b4 (blk_lt HB42.out.1) (by rw [HB42.out.2.2]; exact .inr ⟨5, J, rfl, Nat.le_refl _⟩)
    exact ⟨(blk_of_heap m2).trans HB42.out.1, (free_of_heap m2).trans HB42.out.2.1, m1.trans HB42.out.2.2⟩
  have HB43 := hid_of hb43
  have HDR := hid_of hdr
  have HSR := hid_of hsr
  have HRB := hid_of hRB
  have HL3 : Hid (LS O V bs (m + 10) s' O3 g' V3) := ⟨HK2.out.trans hL3.kp, hL3.sv, hL3.fr, hL3.lo, hL3.inv⟩
  clear hsv hsr hRB hK hL3 hBs hrc1 hrc2 hdr hb43 hbc2 HB42 HIV HK2
  go_wp2_with fail
  refine hdc.mono ?_
  rintro e V4 ⟨rep, rfl, hx4, hC⟩
  dsimp only
  have hRC := hC rfl
  obtain ⟨RE, eRE⟩ : ∃ RE, RE = Reply.enc rep := ⟨_, rfl⟩
  have rl : RE.length = 11 := by rw [eRE]; exact Reply.length_enc _
  have ro : okCells 11 RE = true := by rw [eRE]; exact Reply.ok_enc _
  have rs : splice Reply.zero.enc 0 RE = RE := by rw [eRE]; exact Reply.all_set _ _
  have r0 : nth RE 0 = some (.int .i64 q'.code) := by rw [eRE, ← hRC.code]; rfl
  have rsg : seg RE 0 11 = RE := seg_all _ _ rl
  rw [← eRE]
  have hb44 : blk V4 b4 = some Reply.zero.enc := (hx4.blk (blk_lt HB43.out.1)).trans HB43.out.1
  have hf44 : free V4 b4 = true := (free_of_heap (hx4.block b4 (blk_lt HB43.out.1))).trans HB43.out.2.1
  have hlt4 : b4 < V4.heap.size := blk_lt hb44
  have HX4 := hid_of hx4
  have HRC := hid_of hRC
  have HRE := hid_of eRE
  clear hdc hx4 hRC hC eRE
  go_upto_region 7 with fail
  refine wp_world (fun V' => V4.Extends V' ∧ blk V' b4 = some Reply.zero.enc ∧ free V' b4 = true ∧ blk V' V4.heap.size = some RE) ?_ ?_
  · refine ⟨?_, ?_, ?_, ?_⟩
    · exact extends_alloc (ext_Ext (Ext.refl _)) _
    · rw [blk_alloc, if_neg (by omega)]; exact hb44
    · rw [free_alloc, if_neg (by omega)]; exact hf44
    · rw [blk_alloc, if_pos rfl]
  rintro V5 ⟨hx5, hb5, hf5, hb8⟩
  obtain ⟨b8, e8⟩ : ∃ b8, b8 = V4.heap.size := ⟨_, rfl⟩
  rw [← e8] at hb8 ⊢
  have hne : ¬ b8 = b4 := by omega
  have HP : Hid (∀ n, Q (.returned (.tuple #[.agg RE.toArray, .int .i64 q'.code])) (put (V5.drewN n) b4 RE)) := fun n => by
    rw [HQ.out, HRE.out]
    have hL5 := HL3.out.grow (HX4.out.trans hx5)
    have hL6 := hL5.drewN n
    have hob : lab O3 V3.heap.size .no b4 = .a 5 J := by rw [lab_lt (blk_lt HB43.out.1)]; exact HB43.out.2.2
    have hF : Fr (fun y => y = .a 5 J) (lab O3 V3.heap.size .no) (V5.drewN n) (lab (lab O3 V3.heap.size .no) (V5.drewN n).heap.size (.a 5 J)) (put (V5.drewN n) b4 (Reply.enc rep)) := by
      have h9 := (Fr.refl (fun y => y = .a 5 J) (lab O3 V3.heap.size .no) (V5.drewN n)).put (L := fun y => y = .a 5 J) hob (Reply.enc rep)
      exact ⟨h9.os, h9.tape, h9.output, h9.size, fun k hk => lab_lt hk, h9.block⟩
    refine ⟨rep, q2, q', s', _, g', rfl, HSR.out, HRB.out, HDR.out, hL6.frJ HJ.out hF, HRC.out.code, ?_⟩
    refine HRC.out.sub (fun b C hb => ?_)
    obtain ⟨h1, h2⟩ := newc_blk hb
    have hb4 := blk_lt HB43.out.1
    rw [blk_put, if_neg (by omega), blk_drewN]
    exact (hx5.blk (blk_lt h1)).trans h1
  have hSd : blk (put V5.drew b4 RE) b8 = some RE := by rw [blk_put, if_neg hne]; exact hb8
  have HPd : Hid (Q (.returned (.tuple #[.agg RE.toArray, .int .i64 q'.code])) (put V5.drew b4 RE)) := HP.out 1
  clear e8 HP
  repeat go_step
  refine wp_region_held_drew (S := fun W' => blk W' b8 = some RE) (by kernel_rfl) hb8 (fun hHeld => ?_)
  refine wpAnyH_take (i := 0) (oi := ⟨_, _, _, _, _, _⟩) (v := ?_) rfl (by kernel_rfl) (by kernel_rfl) (by kernel_rfl) (fun _ _ _ h => h) (Or.inl ⟨by rfl, ?_⟩) (by assumption) ?_
  rotate_left 1
  · intro W' hSw
    go_simp
    try with_reducible rfl
  try simp only [Act.put, List.setIfInBounds_toArray, List.set_cons_zero, List.set_cons_succ]
  refine wpAnyH_take (i := 1) (oi := ⟨_, _, _, _, _, _⟩) (v := ?_) rfl (by kernel_rfl) (by kernel_rfl) (by kernel_rfl) (fun _ _ _ h => h) (Or.inl ⟨by rfl, ?_⟩) (by assumption) ?_
  rotate_left 1
  · intro W' hSw
    go_simp
    try with_reducible rfl
  try simp only [Act.put, List.setIfInBounds_toArray, List.set_cons_zero, List.set_cons_succ]
  refine wpAnyH_take (i := 2) (oi := ⟨_, _, _, _, _, _⟩) (v := ?_) rfl (by kernel_rfl) (by kernel_rfl) (by kernel_rfl) (fun _ _ _ h => h) (Or.inl ⟨by rfl, ?_⟩) (by assumption) ?_
  rotate_left 1
  · intro W' hSw
    go_simp
    try with_reducible rfl
  try simp only [Act.put, List.setIfInBounds_toArray, List.set_cons_zero, List.set_cons_succ]
  refine wpAnyH_ready (rs := [3]) (by kernel_rfl) (by simp) ?_
  refine AllReadyH.cons (o := ⟨_, _, _, _, _, _⟩) rfl (fun K' hK => ?_) AllReadyH.nil
  go_simp
  refine hK.out _ _ hSd (fun hHeld => ?_)
  clear hK K'
  try simp only [Act.put, List.setIfInBounds_toArray, List.set_cons_zero, List.set_cons_succ]
  refine wpAnyH_take (i := 4) (oi := ⟨_, _, _, _, _, _⟩) (v := ?_) rfl (by kernel_rfl) (by kernel_rfl) (by kernel_rfl) (fun _ _ _ h => h) (Or.inl ⟨by rfl, ?_⟩) (by assumption) ?_
  rotate_left 1
  · intro W' hSw
    go_simp
    try with_reducible rfl
  try simp only [Act.put, List.setIfInBounds_toArray, List.set_cons_zero, List.set_cons_succ]
  refine wpAnyH_done (by kernel_rfl) ?_ _
  clear hHeld hSd
  go_wp2_with fail
  refine ret_cell_tmp (C := RE) rfl rfl rfl ?_ (by kernel_rfl) (by rw [rl]; kernel_rfl) rfl HPd.out
  rw [blk_put, if_pos rfl]
  show (blk V5 b4).map _ = _
  rw [hb5]; rfl
end Go.Proofs.Qxb6500787aGreat
