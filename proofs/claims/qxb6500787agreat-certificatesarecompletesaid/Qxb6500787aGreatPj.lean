import Derived.Test.Qxb6500787aGreatPi

import Derived.StillTailTactics
import Derived.Deep.QuietTactic
import Derived.BigQuiet
import Derived.Deep.RegionHeld
import Derived.Deep.CutRange
import Derived.Laws.ResultCell
import Derived.Laws.Rows
import Derived.DeepKeys
import Derived.DataBytes
import Derived.Laws.StructEq
import Derived.Laws.AppendOwn
import Derived.Laws.MakeOwn
import Derived.Lib.AppendStr
set_option linter.unusedSimpArgs false
set_option linter.unusedVariables false
namespace Go.Proofs.Qxb6500787aGreat
open Go.RowKit Go.Blk
attribute [local go_sem ↓] execOp_load execOp_store execOp_alloc
attribute [local go_sem] Tryz.ld26 Tryz.st26 Tryz.ld27 Tryz.st27 Tryz.ld28 Tryz.st28 Tryz.ld3 Tryz.st3 Tryz.ld29 Tryz.st29 Tryz.ld44 Tryz.st44 Tryz.ld4 Tryz.st4 Tryz.ld50 Tryz.st50 Tryz.ld32 Tryz.st32 Tryz.ld49 Tryz.st49 Tryz.ld68 Tryz.st68 Tryz.ld9 Tryz.st9 Tryz.ld40 Tryz.st40 Tryz.ld138 Tryz.st138 Tryz.ld139 Tryz.st139 Tryz.ld146 Tryz.st146 Tryz.ld183 Tryz.st183 Tryz.ld184 Tryz.st184 Tryz.ld192 Tryz.st192 Tryz.ld195 Tryz.st195 Tryz.ld217 Tryz.st217 Tryz.ld159 Tryz.st159 Tryz.ld142 Tryz.st142 Tryz.ld2 Tryz.st2 Tryz.ld5 Tryz.st5 Tryz.ld12 Tryz.st12 Tryz.ld21 Tryz.st21 Tryz.ld22 Tryz.st22 Tryz.ld24 Tryz.st24 Tryz.ld58 Tryz.st58 Tryz.ld97 Tryz.st97 Tryz.ld101 Tryz.st101 Tryz.ld116 Tryz.st116 Tryz.ld121 Tryz.st121 Tryz.ld135 Tryz.st135 Tryz.ld136 Tryz.st136 Tryz.ld143 Tryz.st143 Tryz.ld148 Tryz.st148 Tryz.ld154 Tryz.st154 Tryz.ld173 Tryz.st173 Tryz.ld187 Tryz.st187 Tryz.ld222 Tryz.st222 Tryz.ld241 Tryz.st241 Tryz.ld248 Tryz.st248 Tryz.ld268 Tryz.st268 Tryz.ld272 Tryz.st272 Tryz.ld153 Tryz.st153 Tryz.ld255 Tryz.st255 Tryz.ld256 Tryz.st256 Tryz.ld129 Tryz.st129 Tryz.ld152 Tryz.st152 Tryz.ld31 Tryz.st31 Tryz.ld46 Tryz.st46 Tryz.ld52 Tryz.st52 Tryz.ld54 Tryz.st54 Tryz.ld60 Tryz.st60 Tryz.ld70 Tryz.st70 Tryz.ld74 Tryz.st74 Tryz.ld93 Tryz.st93 Tryz.ld141 Tryz.st141 Tryz.ld151 Tryz.st151 Tryz.ld170 Tryz.st170 Tryz.ld186 Tryz.st186 Tryz.ld189 Tryz.st189 Tryz.ld194 Tryz.st194 Tryz.ld197 Tryz.st197 Tryz.ld219 Tryz.st219 Tryz.ld224 Tryz.st224 Tryz.ld230 Tryz.st230 Tryz.ld235 Tryz.st235 Tryz.ld243 Tryz.st243 Tryz.ld247 Tryz.st247 Tryz.ld252 Tryz.st252 Tryz.ld258 Tryz.st258 Tryz.al153 Tryz.al255 Tryz.al256 Tryz.al129 Tryz.al152 Tryz.al31 Tryz.al46 Tryz.al52 Tryz.al54 Tryz.al60 Tryz.al70 Tryz.al74 Tryz.al93 Tryz.al141 Tryz.al151 Tryz.al170 Tryz.al186 Tryz.al189 Tryz.al194 Tryz.al197 Tryz.al219 Tryz.al224 Tryz.al230 Tryz.al235 Tryz.al243 Tryz.al247 Tryz.al252 Tryz.al258
attribute [local go_sem] Request.length_enc Request.ok_enc Request.all_get Request.all_set Request.kind_get Request.kind_set Request.blob_get Request.blob_set Request.items_get Request.items_set Request.pred_get Request.pred_set Request.slots_get Request.slots_set Trace.length_enc Trace.ok_enc Trace.all_get Trace.all_set Trace.op_get Trace.op_set Trace.calls_get Trace.calls_set Item.length_enc Item.ok_enc Item.all_get Item.all_set Item.del_get Item.del_set Item.pred_get Item.pred_set Item.args_get Item.args_set Reply.length_enc Reply.ok_enc Reply.all_get Reply.all_set Reply.code_get Reply.code_set Reply.kind_get Reply.kind_set Reply.index_get Reply.index_set Reply.yes_get Reply.yes_set Reply.preds_get Reply.preds_set Reply.rules_get Reply.rules_set Reply.arity_get Reply.arity_set Reply.rows_get Reply.rows_set Reply.fact_get Reply.fact_set Reply.fact_del_get Reply.fact_del_set Reply.fact_pred_get Reply.fact_pred_set Reply.fact_args_get Reply.fact_args_set GEntry.length_enc GEntry.ok_enc GEntry.all_get GEntry.all_set GEntry.seq_get GEntry.seq_set GEntry.kind_get GEntry.kind_set GEntry.code_get GEntry.code_set GOp.length_enc GOp.ok_enc GOp.all_get GOp.all_set GOp.kind_get GOp.kind_set GOp.raw_get GOp.raw_set Reader.length_enc Reader.ok_enc Reader.all_get Reader.all_set Reader.buf_get Reader.buf_set Reader.at__get Reader.at__set Slot.length_enc Slot.ok_enc Slot.all_get Slot.all_set Slot.bound_get Slot.bound_set Slot.name_get Slot.name_set Session.length_enc Session.ok_enc Session.all_get Session.all_set Session.svc_get Session.svc_set Session.buf_get Session.buf_set Session.closed_get Session.closed_set GProgram.length_enc GProgram.ok_enc GProgram.all_get GProgram.all_set GProgram.pool_get GProgram.pool_set GProgram.preds_get GProgram.preds_set GProgram.rules_get GProgram.rules_set GProgram.strata_get GProgram.strata_set PredInfo.length_enc PredInfo.ok_enc PredInfo.all_get PredInfo.all_set PredInfo.arity_get PredInfo.arity_set PredInfo.base_get PredInfo.base_set PredInfo.stratum_get PredInfo.stratum_set Change.length_enc Change.ok_enc Change.all_get Change.all_set Change.del_get Change.del_set Change.pred_get Change.pred_set Change.t_get Change.t_set Store.length_enc Store.ok_enc Store.all_get Store.all_set Store.names_get Store.names_set Store.arity_get Store.arity_set Store.rows_get Store.rows_set Src.length_enc Src.ok_enc Src.all_get Src.all_set Src.b_get Src.b_set Src.at__get Src.at__set Atom.length_enc Atom.ok_enc Atom.all_get Atom.all_set Atom.pred_get Atom.pred_set Atom.args_get Atom.args_set GRule.length_enc GRule.ok_enc GRule.all_get GRule.all_set GRule.head_get GRule.head_set GRule.body_get GRule.body_set GRule.head_pred_get GRule.head_pred_set GRule.head_args_get GRule.head_args_set Cert.length_enc Cert.ok_enc Cert.all_get Cert.all_set Cert.names_get Cert.names_set Cert.nodes_get Cert.nodes_set Fact.length_enc Fact.ok_enc Fact.all_get Fact.all_set Fact.pred_get Fact.pred_set Fact.t_get Fact.t_set Literal.length_enc Literal.ok_enc Literal.all_get Literal.all_set Literal.neg_get Literal.neg_set Literal.atom_get Literal.atom_set Literal.atom_pred_get Literal.atom_pred_set Literal.atom_args_get Literal.atom_args_set Engine.length_enc Engine.ok_enc Engine.all_get Engine.all_set Engine.prog_get Engine.prog_set Engine.st_get Engine.st_set SrcCertm.length_enc SrcCertm.ok_enc SrcCertm.all_get SrcCertm.all_set SrcCertm.b_get SrcCertm.b_set SrcCertm.at__get SrcCertm.at__set GNode.length_enc GNode.ok_enc GNode.all_get GNode.all_set GNode.rule_get GNode.rule_set GNode.pred_get GNode.pred_set GNode.vals_get GNode.vals_set GNode.refs_get GNode.refs_set Term.length_enc Term.ok_enc Term.all_get Term.all_set Term.var_get Term.var_set Term.n_get Term.n_set Env.length_enc Env.ok_enc Env.all_get Env.all_set Env.val_get Env.val_set Env.set_get Env.set_set
attribute [local go_sem] size_put size_ext blk_put free_put blk_alloc free_alloc blk_drew free_drew blk_ext free_ext lookOr_some putOr_some segAt_some cellAt_some storeIn_some put_put put_alloc_new length_arr ok_arr_u8 ok_arr_u32 ok_arr_u64 ok_arr_i64 ok_arr_sl cellsV_agg cellsV_int cellsV_bool cellsV_string cellsV_pointer cellsV_slice cellsV_sl ok_int ok_bool ok_string ok_pointer ok_slice ok_sl toList_arr seg_arr set_arr nth_splice nth_splice0 seg_splice seg_splice0 splice_splice splice_splice0 length_splice_if
attribute [local go_sem ↓] execOp_box
attribute [local go_sem] box_run nth_arr_u8 put_arr_u8 blk_drewN free_drewN put_drewN blk_raw free_raw
/-- A policy offered to the model. -/
def LdM (m : MS) (xs : List UInt8) (out : List UInt8) (m' : MS) : Prop :=
  ((decP xs).1 ≠ 0 ∧ out = [UInt8.ofNat (decP xs).1.toNat, UInt8.ofNat 1] ∧ m' = m) ∨
  ((decP xs).1 = 0 ∧ ∃ c, AcR (decP xs).2 c ∧ ((c ≠ 0 ∧ out = [UInt8.ofNat c.toNat, UInt8.ofNat 1] ∧ m' = m) ∨
    (c = 0 ∧ ∃ p' F1 T1, VerR (decP xs).2 0 p' ∧ PfTo p' (constF p'.pool (List.replicate p'.preds.length [])) 0 (List.replicate p'.preds.length []) [] F1 T1 ∧ ((overN F1 = true ∧ out = [UInt8.ofNat 16, UInt8.ofNat 1] ∧ m' = m) ∨
      (overN F1 = false ∧ out = [0, 1, UInt8.ofNat p'.preds.length, UInt8.ofNat p'.rules.length] ∧ m' = ⟨true, p', List.replicate p'.preds.length []⟩)))))
theorem facts_rep {W : World} {b n : Nat} (hb : blk W b = some (List.replicate n (Value.slice none 0 0))) : FactsAt W (some ⟨b, 0, none⟩) n (List.replicate n []) := by
  refine ⟨List.replicate n ⟨none, 0, 0⟩, ⟨List.length_replicate .., fun i x hx => ?_⟩, List.length_replicate .., fun i s x h1 h2 => ?_⟩
  · have hi : i < n := by have := (List.getElem?_eq_some_iff.1 hx).1; rwa [List.length_replicate] at this
    have ex : x = ⟨none, 0, 0⟩ := List.eq_of_mem_replicate (List.mem_of_getElem? hx)
    rw [ex]
    refine ⟨b, List.replicate n (Value.slice none 0 0), rfl, hb, ?_, ?_⟩
    · rw [List.length_replicate]; omega
    · unfold seg
      rw [List.drop_replicate, List.take_replicate, Nat.mul_one, Nat.min_eq_left (by omega)]
      rfl
  · have e1 : s = ⟨none, 0, 0⟩ := List.eq_of_mem_replicate (List.mem_of_getElem? h1)
    have e2 : x = [] := List.eq_of_mem_replicate (List.mem_of_getElem? h2)
    rw [e1, e2]
    exact Nest.nil
theorem AcR.bd {p : PP} {c : Int} (h : AcR p c) : 0 ≤ c ∧ c ≤ 255 := by
  cases h <;> exact ⟨by decide, by decide⟩
/-- The new policy is put into the state. -/
theorem ld_put {O : Own} {W V5 V : World} {bm : Nat} {m : MS} {Ce CE Cn : List Value} {fa : Option Addr} {fc : Nat} (h : MAo O W bm m Ce fa fc) (h5 : W.Extends V5) {p' : PP} (hP : PgR (core (lab O W.heap.size .no) V5) CE p') {bo n : Nat} (hbo : blk V5 bo = some (List.replicate n (Value.slice none 0 0))) (hbn : W.heap.size ≤ bo) (hCn : Cn.length = 7) (hc : ∀ k, nth Cn k = if k = 0 then some (.bool true) else if 2 ≤ k ∧ k < 6 then nth CE (k - 2) else if k = 6 then some (.slice (some ⟨bo, 0, none⟩) n n) else nth Cn k) (hx : (put V5 bm Cn).Extends V) : OnG W bm V Cn ∧ MAo (lab O W.heap.size .no) V bm ⟨true, p', List.replicate n []⟩ Cn (some ⟨bo, 0, none⟩) n := by
  have hb := blk_lt h.cell
  have hon : OnG W bm V Cn := (h.on h5).put.ext hx
  have hsub2 : Sub (core (lab O W.heap.size .no) V5) (core (lab O W.heap.size .no) V) := Sub.cores fun b C hb9 ho => by
    have hne : b ≠ bm := fun e => by rw [e, lab_lt hb, h.own] at ho; cases ho
    refine ⟨?_, ho⟩
    refine (hx.blk (by rw [size_put]; exact blk_lt hb9)).trans ?_
    rw [blk_put, if_neg hne]; exact hb9
  refine ⟨hon, hon.blk, hon.free, by rw [lab_lt hb]; exact h.own, hCn, ?_, fun _ => ?_, ?_, fun _ => ?_⟩
  · rw [hc, if_pos rfl]
  · exact (hP.sub hsub2).cells (fun k hk => by
      rw [nth_drop, hc, if_neg (by omega), if_pos ⟨by omega, by omega⟩]
      congr 1
      omega)
  · rw [hc, if_neg (by omega), if_neg (by omega), if_pos rfl]
    show _ = some (Value.slice (some ⟨bo, 0, none⟩) (List.replicate n ([] : List NRow)).length n)
    rw [List.length_replicate]
  · show FactsAt _ _ (List.replicate n ([] : List NRow)).length _
    rw [List.length_replicate]
    exact facts_rep (hsub2 bo _ (blk_core hbo (lab_ge hbn)))
attribute [local go_sem ↓] execOp_bslice execOp_convert execOp_make
attribute [local go_sem] bslice27d Tryz.zl75 Tryz.zs75 Tryz.zl52 Tryz.zs52
set_option maxRecDepth 40000 in
set_option maxHeartbeats 1000000 in
theorem mload_any (O : Own) (W : World) (bm : Nat) (m : MS) (Ce : List Value) (fa : Option Addr) (fc : Nat) (h : MAo O W bm m Ce fa fc) (xa : Option Addr) (xn xc : Nat) (xs : List UInt8) (hX : Bs W xa xn xs) (hxn : xn ≤ 65536) (hnc : xn ≤ xc) (hxc : xc ≤ 9223372036854775807) : Calls Tryz.prog 56 #[.pointer (some ⟨bm, 0, none⟩), .slice xa xn xc] W (UpPost O W bm (LdM m xs)) := by
  obtain ⟨Q, hQ⟩ : ∃ Q, Q = UpPost O W bm (LdM m xs) := ⟨_, rfl⟩
  rw [← hQ]
  have HQ := hid_of hQ
  have HM := hid_of h
  have hbd := bdec_any W xa xn xc hxn hnc hxc xs hX
  obtain ⟨pc, hpc⟩ : ∃ pc, pc = (decP xs).1 := ⟨_, rfl⟩
  obtain ⟨p0, hp0⟩ : ∃ p0, p0 = (decP xs).2 := ⟨_, rfl⟩
  have HPC := hid_of hpc
  have HP0 := hid_of hp0
  clear hQ h hX hpc hp0
  go_enter Tryz.func56, Tryz.ntmps56
  go_wp2_with fail
  refine hbd.mono ?_
  rintro e V6 ⟨x, rfl, O6, hBl, hPg⟩
  dsimp only
  rw [← HPC.out]
  have xl := GProgram.length_enc x
  have xo := GProgram.ok_enc x
  have xs' := GProgram.all_set GProgram.zero x
  have HBLK := hid_of hBl
  have HPG : Hid (pc = 0 → PgM W O6 V6 x p0) := fun e => by rw [HP0.out]; exact hPg (by rw [← HPC.out]; exact e)
  clear hbd hBl hPg
  go_upto_region 2 with fail
  refine wp_world (fun V => V6.Extends V ∧ blk V V6.heap.size = some (GProgram.enc x) ∧ free V V6.heap.size = true) ⟨?_, ?_, ?_⟩ ?_
  · exact extends_alloc (ext_Ext (Ext.refl _)) _
  · rw [blk_alloc, if_pos rfl]
  · rw [free_alloc, if_pos rfl]
  rintro V7 ⟨hx7, hb10, hf10⟩
  obtain ⟨b10, e10⟩ : ∃ b10, b10 = V6.heap.size := ⟨_, rfl⟩
  rw [← e10] at hb10 hf10 ⊢
  have HX57 : Hid (W.Extends V7) := HBLK.out.ext.trans hx7
  have h510 : W.heap.size ≤ b10 := by rw [e10]; exact HBLK.out.ext.size
  by_cases hpc0 : pc = 0
  rotate_left 1
  · have hpb : (pc == 0) = false := by simp [hpc0]
    have hpb2 : (pc != 0) = true := by simp [hpc0]
    have hcd := decP_cd xs
    rw [← HPC.out] at hcd
    obtain ⟨cn, ecn⟩ : ∃ cn : Nat, pc = (cn : Int) := ⟨pc.toNat, by have := hcd.1; omega⟩
    have hc255 : cn ≤ 255 := by have := hcd.2.1; omega
    have hrf := refusal_any V7 cn 1 hc255 (by decide)
    rw [← ecn] at hrf
    have HCN := hid_of ecn
    clear hb10 hf10 hx7 e10 xl xo xs' HPG HBLK hcd ecn
    go_wp2_with fail
    refine hrf.mono ?_
    rintro e V9 ⟨a9, n9, c9, rfl, ho9⟩
    dsimp only
    have HP : Hid (Q (.returned (.slice a9 n9 c9)) V9) := by
      show Q _ _
      rw [HQ.out]
      refine up_of HM.out ⟨row_base ho9.1 HX57.out.size, HX57.out.trans ho9.2.1, ho9.2.2⟩ (.inl ⟨by rw [← HPC.out]; exact hpc0, ?_, rfl⟩)
      rw [← HPC.out, HCN.out, Int.toNat_natCast]
    clear ho9 hrf
    go_wp2_with fail
    try go_ret
    exact HP.out
  have hpb : (pc == 0) = true := by simp [hpc0]
  have hPA : PgA W.heap.size (ldO (fun _ => .a 9 8) O6 W.heap.size b10) V7 b10 (GProgram.enc x) p0 := pgA_of HBLK.out (HPG.out hpc0) hx7 (Nat.le_of_eq e10.symm) hb10 hf10
  have hdk : DecOk p0 := by rw [HP0.out]; exact decP_ok (by rw [← HPC.out]; exact hpc0)
  obtain ⟨O7, hO7⟩ : ∃ O7, O7 = ldO (fun _ => .a 9 8) O6 W.heap.size b10 := ⟨_, rfl⟩
  have HO7 : Hid (∀ k, k < W.heap.size → O7 k = .a 9 8) := fun k hk => by rw [hO7]; unfold ldO; rw [if_pos hk]
  rw [← hO7] at hPA
  have HPA := hid_of hPA
  have HDK := hid_of hdk
  have hac := acceptable_any V7 b10 p0 hPA.progC ⟨Nat.le_trans hdk.rules.1 (by decide), Nat.le_trans hdk.preds.1 (by decide)⟩ (fun r hr => (hdk.rules.2 r hr).lens)
  have HPC0 : Hid ((decP xs).1 = 0) := HPC.out.symm.trans hpc0
  clear hb10 hf10 hx7 e10 xl xo xs' HPG HBLK hPA hdk hO7 HPC
  subst hpc0
  go_wp2_with fail
  refine hac.mono ?_
  rintro e V8 ⟨c, rfl, hAc, hx8⟩
  dsimp only
  have HAC : Hid (AcR (decP xs).2 c) := by rw [HP0.out] at hAc; exact hAc
  have HX58 : Hid (W.Extends V8) := HX57.out.trans hx8
  have HX78 := hid_of hx8
  clear hac hAc hx8
  by_cases hc0 : c = 0
  rotate_left 1
  · have hcb : (c == 0) = false := by simp [hc0]
    have hcb2 : (c != 0) = true := by simp [hc0]
    obtain ⟨cn, ecn⟩ : ∃ cn : Nat, c = (cn : Int) := ⟨c.toNat, by have := HAC.out.bd.1; omega⟩
    have hc255 : cn ≤ 255 := by have := HAC.out.bd.2; omega
    have hrf := refusal_any V8 cn 1 hc255 (by decide)
    rw [← ecn] at hrf
    have HCN := hid_of ecn
    clear ecn
    go_wp2_with fail
    refine hrf.mono ?_
    rintro e V9 ⟨a9, n9, c9, rfl, ho9⟩
    dsimp only
    have HP : Hid (Q (.returned (.slice a9 n9 c9)) V9) := by
      show Q _ _
      rw [HQ.out]
      refine up_of HM.out ⟨row_base ho9.1 HX58.out.size, HX58.out.trans ho9.2.1, ho9.2.2⟩ (.inr ⟨HPC0.out, c, HAC.out, .inl ⟨hc0, ?_, rfl⟩⟩)
      rw [HCN.out, Int.toNat_natCast]
    clear ho9 hrf
    go_wp2_with fail
    try go_ret
    exact HP.out
  have hPA8 := HPA.out.fr (L := fun _ => False) (Fr.grow HX78.out) (fun e => e) (fun e => e) (fun e => e)
  obtain ⟨O8, hO8⟩ : ∃ O8, O8 = lab O7 V7.heap.size .no := ⟨_, rfl⟩
  rw [← hO8] at hPA8
  have HO8 : Hid (∀ k, k < W.heap.size → O8 k = .a 9 8) := fun k hk => by rw [hO8, lab_lt (Nat.lt_of_lt_of_le hk HX57.out.size)]; exact HO7.out k hk
  have hve := verify_any hPA8 (fun r hr => (HDK.out.rules.2 r hr).lens) (fun y hy => (HDK.out.preds.2 y hy).1)
  clear hPA8 hO8 HPA HO7 HX78 HX57
  subst hc0
  go_wp2_with fail
  refine hve.mono ?_
  rintro e V9 ⟨vc, p', O9, rfl, hVR, hF9, hPA9⟩
  dsimp only
  have hvc : vc = 0 := by
    have h9 := ac_ver (by rw [← HP0.out]; exact HDK.out) HAC.out (by rw [← HP0.out]; exact hVR)
    exact h9.symm
  obtain ⟨CE, hPA⟩ := hPA9 hvc
  have hx59 : W.Extends V9 := hF9.extends HX58.out (fun k hk => by rw [HO8.out k hk]; rintro (e | e) <;> cases e)
  have hpv : PgV p' := verR_pgV HDK.out (by rw [hvc] at hVR; exact hVR)
  have HPV := hid_of hpv
  have HVR : Hid (VerR (decP xs).2 0 p') := by show VerR _ _ _; rw [← HP0.out, ← hvc]; exact hVR
  obtain ⟨n, en⟩ : ∃ n, n = p'.preds.length := ⟨_, rfl⟩
  obtain ⟨pa1, pc1, cp1, -⟩ := hPA.pk.preds
  rw [← en] at cp1
  obtain ⟨pa2, pc2, Rs2, cp2, -, -⟩ := hPA.pk.rules
  obtain ⟨pa0, pc0, cp0, -⟩ := hPA.pk.pool
  have cp3 := hPA.pk.strata
  have hCEo : okCells 4 CE = true := by
    have hlen := hPA.pk.len
    obtain ⟨pa9, pc9, c1, -⟩ := hPA.pk.preds
    clear hPA9 hPA
    match CE, hlen with
    | [a, b, c, d], _ =>
      have e0 : a = _ := Option.some.inj cp0
      have e1 : b = _ := Option.some.inj c1
      have e2 : c = _ := Option.some.inj cp2
      have e3 : d = _ := Option.some.inj cp3
      rw [e0, e1, e2, e3]; rfl
  clear cp0 cp3
  obtain ⟨nr, enr⟩ : ∃ nr, nr = p'.rules.length := ⟨_, rfl⟩
  rw [← enr] at cp2
  have hCEl : CE.length = 4 := hPA.pk.len
  have hCl : 1 < CE.length := by omega
  have hCl2 : 2 < CE.length := by omega
  have hn64 : n ≤ 64 := by rw [en]; exact hpv.g.pok.nD
  have hnr : nr ≤ 128 := by rw [enr]; exact hpv.g.pok.nR
  have HCE : Hid (blk V9 b10 = some CE ∧ PgR (core (lab O W.heap.size .no) V9) CE p') := by
    have hold : ∀ k l, O9 k = l → l ≠ .a 9 8 → lab O W.heap.size .no k = .no := fun k l e1 e2 => lab_ge (Nat.le_of_not_lt fun hk => e2 (by rw [← e1, hF9.keep k (Nat.lt_of_lt_of_le hk HX58.out.size)]; exact HO8.out k hk))
    exact ⟨hPA.cell, hPA.const (fun k hk => hold k _ hk (fun e => by cases e)) (fun k hk => hold k _ hk (fun e => by cases e))⟩
  have HPC9 := hid_of hPA.progC
  have hb10 := hPA.cell
  have hmk : ∀ w, (makeOp 52 (.int .i64 (n : Int)) (.int .i64 (n : Int))).run Tryz.prog w = .ok (.value (.slice (some ⟨w.heap.size, 0, none⟩) n n)) (w.alloc (.cells (List.replicate n (Value.slice none 0 0)).toArray 75)) := fun w => make52 w n (by omega)
  obtain ⟨RR, hRR⟩ : ∃ RR, RR = List.replicate n (Value.slice none 0 0) := ⟨_, rfl⟩
  simp only [← hRR] at hmk
  have HRR := hid_of hRR
  have HX59 := hid_of hx59
  have HN := hid_of en
  have HNR := hid_of enr
  clear hve hVR hF9 hPA9 hPA hx59 hpv en enr HX58 HO8 hRR hvc
  go_upto_region 9 with fail
  refine wp_world (fun V => V9.Extends V ∧ blk V V9.heap.size = some RR ∧ free V V9.heap.size = true) ⟨extends_alloc (ext_Ext (Ext.refl _)) _, by rw [blk_alloc, if_pos rfl], by rw [free_alloc, if_pos rfl]⟩ ?_
  rintro V10 ⟨hx10, hb7, -⟩
  obtain ⟨b7, e7⟩ : ∃ b7, b7 = V9.heap.size := ⟨_, rfl⟩
  rw [← e7] at hb7 ⊢
  have h7n : W.heap.size ≤ b7 := by rw [e7]; exact HX59.out.size
  have hE : PfE V10 b10 0 p' (some ⟨b7, 0, none⟩) n (List.replicate n []) := ⟨(progC_ext HPC9.out hx10).o, facts_rep (by rw [hb7, HRR.out]), by rw [List.length_replicate]; exact HN.out, by rw [List.length_replicate]; exact hn64, Nat.le_trans HPV.out.g.pok.nR (by decide), by have := HPV.out.g.pok.st.2; omega, fun r hr => by rw [List.length_replicate, HN.out]; exact HPV.out.g.fit hr, Nat.le_trans HPV.out.g.pok.nP (by decide), fun L hL => by rw [List.eq_of_mem_replicate hL]; exact Nat.zero_le _, (fun L hL r hr => by rw [List.eq_of_mem_replicate hL] at hr; cases hr), Nat.le_trans (const_empty _ _) HPV.out.g.pok.nP⟩
  have hpf := perfectN_any V10 b10 0 p' (some ⟨b7, 0, none⟩) n n (List.replicate n []) hE
  have HX10 : Hid (W.Extends V10) := HX59.out.trans hx10
  have HCE10 : Hid (blk V10 b10 = some CE ∧ PgR (core (lab O W.heap.size .no) V10) CE p' ∧ blk V10 b7 = some RR) := ⟨(hx10.blk (blk_lt HCE.out.1)).trans HCE.out.1, HCE.out.2.sub (Sub.cores fun b C hb ho => ⟨(hx10.blk (blk_lt hb)).trans hb, ho⟩), hb7⟩
  clear hx10 e7 hE hmk hb10 HCE HPC9 HX59
  go_wp2_with fail
  refine hpf.mono ?_
  rintro e V11 ⟨bo, ta, tn, tc, F1, T1, rfl, hPf, hFl, hx11, hFA, -, -, hLL, -⟩
  dsimp only
  rw [List.length_replicate] at hFl hFA ⊢
  have HX11 : Hid (W.Extends V11) := HX10.out.trans hx11
  have HPF : Hid (PfTo p' (constF p'.pool (List.replicate p'.preds.length [])) 0 (List.replicate p'.preds.length []) [] F1 T1) := by
    show PfTo _ _ _ _ _ _ _
    rw [← HN.out]; exact hPf
  have hov := overN_any V11 (some ⟨bo, 0, none⟩) n n (by omega) F1 hFA
  obtain ⟨ov, eov⟩ : ∃ ov, ov = overN F1 := ⟨_, rfl⟩
  rw [← eov] at hov
  have HOV := hid_of eov
  have HCE11 : Hid (blk V11 b10 = some CE ∧ PgR (core (lab O W.heap.size .no) V11) CE p' ∧ blk V11 b7 = some RR) := ⟨(hx11.blk (blk_lt HCE10.out.1)).trans HCE10.out.1, HCE10.out.2.1.sub (Sub.cores fun b C hb ho => ⟨(hx11.blk (blk_lt hb)).trans hb, ho⟩), (hx11.blk (blk_lt HCE10.out.2.2)).trans HCE10.out.2.2⟩
  clear hpf hPf hFl hx11 hFA hLL eov HCE10
  go_wp2_with fail
  refine hov.mono ?_
  rintro e V12 ⟨rfl, e12⟩
  subst e12
  dsimp only
  clear hov
  cases ov with
  | true =>
    have hrf := refusal_any V12 16 1 (by decide) (by decide)
    go_wp2_with fail
    refine hrf.mono ?_
    rintro e V13 ⟨a9, n9, c9, rfl, ho9⟩
    dsimp only
    have HP : Hid (Q (.returned (.slice a9 n9 c9)) V13) := by
      show Q _ _
      rw [HQ.out]
      exact up_of HM.out ⟨row_base ho9.1 HX11.out.size, HX11.out.trans ho9.2.1, ho9.2.2⟩ (.inr ⟨HPC0.out, 0, HAC.out, .inr ⟨rfl, p', F1, T1, HVR.out, HPF.out, .inl ⟨HOV.out.symm, rfl, rfl⟩⟩⟩)
    clear ho9 hrf
    go_wp2_with fail
    try go_ret
    exact HP.out
  | false =>
    have hbm : blk V12 bm = some Ce := (HX11.out.blk (blk_lt HM.out.cell)).trans HM.out.cell
    have hfm : free V12 bm = true := (free_of_heap (HX11.out.block bm (blk_lt HM.out.cell))).trans HM.out.fre
    have hb10 := HCE11.out.1
    have hne : ¬ b10 = bm := by have := blk_lt HM.out.cell; omega
    have hne2 : ¬ bm = b10 := fun e => hne e.symm
    have hCe := HM.out.len
    have hCEs : seg CE 0 4 = CE := seg_all _ _ hCEl
    have k0 : 0 < Ce.length := by omega
    have k1 : 0 + 1 ≤ Ce.length := by omega
    have k2 : 1 + 1 ≤ Ce.length := by omega
    have k3 : 2 + 4 ≤ Ce.length := by omega
    have k4 : 6 + 1 ≤ Ce.length := by omega
    obtain ⟨Cn, eCn⟩ : ∃ Cn, Cn = splice (splice (splice (splice Ce 0 [.bool true]) 1 [.slice xa xn xc]) 2 CE) 6 [.slice (some ⟨b7, 0, none⟩) n n] := ⟨_, rfl⟩
    have s1 : (splice Ce 0 [.bool true]).length = 7 := by rw [length_splice1 (by omega)]; exact hCe
    have s2 : (splice (splice Ce 0 [.bool true]) 1 [.slice xa xn xc]).length = 7 := by rw [length_splice1 (by omega)]; exact s1
    have s3 : (splice (splice (splice Ce 0 [.bool true]) 1 [.slice xa xn xc]) 2 CE).length = 7 := by rw [length_splice _ _ _ (by omega)]; exact s2
    go_upto_region 13 with fail
    have hn1 : ∀ k, nth (splice Ce 0 [Value.bool true]) k = if k = 0 then some (.bool true) else nth Ce k := fun k => splice_nth (by omega) k
    have hn2 : ∀ k, nth (splice (splice Ce 0 [Value.bool true]) 1 [.slice xa xn xc]) k = if k = 1 then some (.slice xa xn xc) else nth (splice Ce 0 [Value.bool true]) k := fun k => splice_nth (by omega) k
    have hn4 : ∀ k, nth Cn k = if k = 6 then some (.slice (some ⟨b7, 0, none⟩) n n) else nth (splice (splice (splice Ce 0 [.bool true]) 1 [.slice xa xn xc]) 2 CE) k := fun k => by rw [eCn]; exact splice_nth (by omega) k
    have hcn : ∀ k, nth Cn k = if k = 0 then some (.bool true) else if 2 ≤ k ∧ k < 6 then nth CE (k - 2) else if k = 6 then some (.slice (some ⟨b7, 0, none⟩) n n) else nth Cn k := fun k => by
      by_cases e0 : k = 0
      · rw [if_pos e0, hn4, if_neg (by omega), splice_nth2 (by omega), if_neg (by omega), hn2, if_neg (by omega), hn1, if_pos e0]
      · rw [if_neg e0]
        by_cases e2 : 2 ≤ k ∧ k < 6
        · rw [if_pos e2, hn4, if_neg (by omega), splice_nth2 (by omega), if_pos ⟨by omega, by omega⟩]
        · rw [if_neg e2]
          by_cases e6 : k = 6
          · rw [if_pos e6, hn4, if_pos e6]
          · rw [if_neg e6]
    have hCnl : Cn.length = 7 := by rw [eCn, length_splice1 (by omega)]; exact s3
    rw [← eCn]
    have hb10' : blk (put V12 bm Cn) b10 = some CE := by rw [blk_put, if_neg hne]; exact hb10
    have u1 : IntKind.u8.wrap (n : Int) = (n : Int) := by rw [IntKind.wrap_u8]; omega
    have u2 : IntKind.u8.wrap (nr : Int) = (nr : Int) := by rw [IntKind.wrap_u8]; omega
    have hob := ob_new (ext_Ext (Ext.refl (put V12 bm Cn))) [0, 1, UInt8.ofNat n, UInt8.ofNat nr] (by simp) #[.int .u8 0, .int .u8 1, .int .u8 (n : Int), .int .u8 (nr : Int)] (by
      show _ = (List.map u8v _).toArray
      rw [List.map_cons, List.map_cons, List.map_cons, List.map_cons, List.map_nil, u8_ofk n (by omega), u8_ofk nr (by omega)]; rfl) 4 rfl
    have hup := ld_put (Cn := Cn) (CE := CE) HM.out HX11.out HCE11.out.2.1 (bo := b7) (n := n) (by rw [HCE11.out.2.2, HRR.out]) h7n hCnl hcn hob.2.1
    have HP : Hid (Q (.returned (.slice (some ⟨(put V12 bm Cn).heap.size, 0, none⟩) 4 4)) ((put V12 bm Cn).alloc (.cells #[.int .u8 0, .int .u8 1, .int .u8 (n : Int), .int .u8 (nr : Int)] 5))) := by
      show Q _ _
      rw [HQ.out]
      refine ⟨_, _, _, _, _, _, _, _, rfl, hup.1, hup.2, row_base hob.1 (by rw [size_put]; exact HX11.out.size), hob.2.2, .inr ⟨HPC0.out, 0, HAC.out, .inr ⟨rfl, p', F1, T1, HVR.out, HPF.out, .inr ⟨HOV.out.symm, ?_, ?_⟩⟩⟩⟩
      · rw [← HN.out, ← HNR.out]
      · rw [← HN.out]
    clear hup hob hcn hn1 hn2 hn4 eCn s1 s2 s3
    go_wp2_with fail
    try go_ret
    first | exact HP.out | (have h9 := HP.out; rw [size_put] at h9; exact h9)
end Go.Proofs.Qxb6500787aGreat
