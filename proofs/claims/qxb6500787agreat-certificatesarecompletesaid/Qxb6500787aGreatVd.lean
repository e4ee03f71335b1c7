
import Derived.Test.Qxb6500787aGreatVc
import Derived.StillTailTactics
import Derived.Deep.QuietTactic
import Derived.BigQuiet
import Derived.Deep.RegionHeld
import Derived.Deep.CutRange
import Derived.Laws.ResultCell
import Derived.Laws.Rows
import Derived.DeepKeys
import Derived.DataBytes
import Derived.Laws.StructEq
import Derived.Laws.AppendOwn
import Derived.Laws.MakeOwn
import Derived.Lib.AppendStr
set_option linter.unusedSimpArgs false
set_option linter.unusedVariables false
namespace Go.Proofs.Qxb6500787aGreat
open Go.RowKit Go.Blk
attribute [local go_sem ↓] execOp_load execOp_store execOp_alloc
attribute [local go_sem] Tryz.ld26 Tryz.st26 Tryz.ld27 Tryz.st27 Tryz.ld28 Tryz.st28 Tryz.ld3 Tryz.st3 Tryz.ld29 Tryz.st29 Tryz.ld44 Tryz.st44 Tryz.ld4 Tryz.st4 Tryz.ld50 Tryz.st50 Tryz.ld32 Tryz.st32 Tryz.ld49 Tryz.st49 Tryz.ld68 Tryz.st68 Tryz.ld9 Tryz.st9 Tryz.ld40 Tryz.st40 Tryz.ld138 Tryz.st138 Tryz.ld139 Tryz.st139 Tryz.ld146 Tryz.st146 Tryz.ld183 Tryz.st183 Tryz.ld184 Tryz.st184 Tryz.ld192 Tryz.st192 Tryz.ld195 Tryz.st195 Tryz.ld217 Tryz.st217 Tryz.ld159 Tryz.st159 Tryz.ld142 Tryz.st142 Tryz.ld2 Tryz.st2 Tryz.ld5 Tryz.st5 Tryz.ld12 Tryz.st12 Tryz.ld21 Tryz.st21 Tryz.ld22 Tryz.st22 Tryz.ld24 Tryz.st24 Tryz.ld58 Tryz.st58 Tryz.ld97 Tryz.st97 Tryz.ld101 Tryz.st101 Tryz.ld116 Tryz.st116 Tryz.ld121 Tryz.st121 Tryz.ld135 Tryz.st135 Tryz.ld136 Tryz.st136 Tryz.ld143 Tryz.st143 Tryz.ld148 Tryz.st148 Tryz.ld154 Tryz.st154 Tryz.ld173 Tryz.st173 Tryz.ld187 Tryz.st187 Tryz.ld222 Tryz.st222 Tryz.ld241 Tryz.st241 Tryz.ld248 Tryz.st248 Tryz.ld268 Tryz.st268 Tryz.ld272 Tryz.st272 Tryz.ld153 Tryz.st153 Tryz.ld255 Tryz.st255 Tryz.ld256 Tryz.st256 Tryz.ld129 Tryz.st129 Tryz.ld152 Tryz.st152 Tryz.ld31 Tryz.st31 Tryz.ld46 Tryz.st46 Tryz.ld52 Tryz.st52 Tryz.ld54 Tryz.st54 Tryz.ld60 Tryz.st60 Tryz.ld70 Tryz.st70 Tryz.ld74 Tryz.st74 Tryz.ld93 Tryz.st93 Tryz.ld141 Tryz.st141 Tryz.ld151 Tryz.st151 Tryz.ld170 Tryz.st170 Tryz.ld186 Tryz.st186 Tryz.ld189 Tryz.st189 Tryz.ld194 Tryz.st194 Tryz.ld197 Tryz.st197 Tryz.ld219 Tryz.st219 Tryz.ld224 Tryz.st224 Tryz.ld230 Tryz.st230 Tryz.ld235 Tryz.st235 Tryz.ld243 Tryz.st243 Tryz.ld247 Tryz.st247 Tryz.ld252 Tryz.st252 Tryz.ld258 Tryz.st258 Tryz.al153 Tryz.al255 Tryz.al256 Tryz.al129 Tryz.al152 Tryz.al31 Tryz.al46 Tryz.al52 Tryz.al54 Tryz.al60 Tryz.al70 Tryz.al74 Tryz.al93 Tryz.al141 Tryz.al151 Tryz.al170 Tryz.al186 Tryz.al189 Tryz.al194 Tryz.al197 Tryz.al219 Tryz.al224 Tryz.al230 Tryz.al235 Tryz.al243 Tryz.al247 Tryz.al252 Tryz.al258
attribute [local go_sem] Request.length_enc Request.ok_enc Request.all_get Request.all_set Request.kind_get Request.kind_set Request.blob_get Request.blob_set Request.items_get Request.items_set Request.pred_get Request.pred_set Request.slots_get Request.slots_set Trace.length_enc Trace.ok_enc Trace.all_get Trace.all_set Trace.op_get Trace.op_set Trace.calls_get Trace.calls_set Item.length_enc Item.ok_enc Item.all_get Item.all_set Item.del_get Item.del_set Item.pred_get Item.pred_set Item.args_get Item.args_set Reply.length_enc Reply.ok_enc Reply.all_get Reply.all_set Reply.code_get Reply.code_set Reply.kind_get Reply.kind_set Reply.index_get Reply.index_set Reply.yes_get Reply.yes_set Reply.preds_get Reply.preds_set Reply.rules_get Reply.rules_set Reply.arity_get Reply.arity_set Reply.rows_get Reply.rows_set Reply.fact_get Reply.fact_set Reply.fact_del_get Reply.fact_del_set Reply.fact_pred_get Reply.fact_pred_set Reply.fact_args_get Reply.fact_args_set GEntry.length_enc GEntry.ok_enc GEntry.all_get GEntry.all_set GEntry.seq_get GEntry.seq_set GEntry.kind_get GEntry.kind_set GEntry.code_get GEntry.code_set GOp.length_enc GOp.ok_enc GOp.all_get GOp.all_set GOp.kind_get GOp.kind_set GOp.raw_get GOp.raw_set Reader.length_enc Reader.ok_enc Reader.all_get Reader.all_set Reader.buf_get Reader.buf_set Reader.at__get Reader.at__set Slot.length_enc Slot.ok_enc Slot.all_get Slot.all_set Slot.bound_get Slot.bound_set Slot.name_get Slot.name_set Session.length_enc Session.ok_enc Session.all_get Session.all_set Session.svc_get Session.svc_set Session.buf_get Session.buf_set Session.closed_get Session.closed_set GProgram.length_enc GProgram.ok_enc GProgram.all_get GProgram.all_set GProgram.pool_get GProgram.pool_set GProgram.preds_get GProgram.preds_set GProgram.rules_get GProgram.rules_set GProgram.strata_get GProgram.strata_set PredInfo.length_enc PredInfo.ok_enc PredInfo.all_get PredInfo.all_set PredInfo.arity_get PredInfo.arity_set PredInfo.base_get PredInfo.base_set PredInfo.stratum_get PredInfo.stratum_set Change.length_enc Change.ok_enc Change.all_get Change.all_set Change.del_get Change.del_set Change.pred_get Change.pred_set Change.t_get Change.t_set Store.length_enc Store.ok_enc Store.all_get Store.all_set Store.names_get Store.names_set Store.arity_get Store.arity_set Store.rows_get Store.rows_set Src.length_enc Src.ok_enc Src.all_get Src.all_set Src.b_get Src.b_set Src.at__get Src.at__set Atom.length_enc Atom.ok_enc Atom.all_get Atom.all_set Atom.pred_get Atom.pred_set Atom.args_get Atom.args_set GRule.length_enc GRule.ok_enc GRule.all_get GRule.all_set GRule.head_get GRule.head_set GRule.body_get GRule.body_set GRule.head_pred_get GRule.head_pred_set GRule.head_args_get GRule.head_args_set Cert.length_enc Cert.ok_enc Cert.all_get Cert.all_set Cert.names_get Cert.names_set Cert.nodes_get Cert.nodes_set Fact.length_enc Fact.ok_enc Fact.all_get Fact.all_set Fact.pred_get Fact.pred_set Fact.t_get Fact.t_set Literal.length_enc Literal.ok_enc Literal.all_get Literal.all_set Literal.neg_get Literal.neg_set Literal.atom_get Literal.atom_set Literal.atom_pred_get Literal.atom_pred_set Literal.atom_args_get Literal.atom_args_set Engine.length_enc Engine.ok_enc Engine.all_get Engine.all_set Engine.prog_get Engine.prog_set Engine.st_get Engine.st_set SrcCertm.length_enc SrcCertm.ok_enc SrcCertm.all_get SrcCertm.all_set SrcCertm.b_get SrcCertm.b_set SrcCertm.at__get SrcCertm.at__set GNode.length_enc GNode.ok_enc GNode.all_get GNode.all_set GNode.rule_get GNode.rule_set GNode.pred_get GNode.pred_set GNode.vals_get GNode.vals_set GNode.refs_get GNode.refs_set Term.length_enc Term.ok_enc Term.all_get Term.all_set Term.var_get Term.var_set Term.n_get Term.n_set Env.length_enc Env.ok_enc Env.all_get Env.all_set Env.val_get Env.val_set Env.set_get Env.set_set
attribute [local go_sem] size_put size_ext blk_put free_put blk_alloc free_alloc blk_drew free_drew blk_ext free_ext lookOr_some putOr_some segAt_some cellAt_some storeIn_some put_put put_alloc_new length_arr ok_arr_u8 ok_arr_u32 ok_arr_u64 ok_arr_i64 ok_arr_sl cellsV_agg cellsV_int cellsV_bool cellsV_string cellsV_pointer cellsV_slice cellsV_sl ok_int ok_bool ok_string ok_pointer ok_slice ok_sl toList_arr seg_arr set_arr nth_splice nth_splice0 seg_splice seg_splice0 splice_splice splice_splice0 length_splice_if
attribute [local go_sem ↓] execOp_box
attribute [local go_sem] box_run nth_arr_u8 put_arr_u8 blk_drewN free_drewN put_drewN blk_raw free_raw
theorem Bs.sub {W W' : World} {a : Option Addr} {n : Nat} {xs : List UInt8} (h : Bs W a n xs) (hs : Sub W W') : Bs W' a n xs := by
  obtain ⟨h1, h2, h3⟩ := h
  refine ⟨h1, fun h0 => ?_, h3⟩
  obtain ⟨b, o, C, e1, e2, e3⟩ := h2 h0
  exact ⟨b, o, C, e1, hs b C e2, e3⟩
theorem kp_grow {O : Own} {W V : World} (hx : W.Extends V) : Kp O W (lab O W.heap.size .no) V := Kp.fr (L := fun _ => False) (Fr.grow hx) (fun _ _ e => e)
set_option maxRecDepth 40000 in
set_option maxHeartbeats 4000000 in
theorem makeRoom_any {O : Own} {W : World} {bs g : Nat} {s : Sv} {CS : List Value} {ip ia : Option Addr} {iN ic : Nat} (h : SvM O W bs g s CS ip ia iN ic) {t : InsS} (ht : s.inst = some t) (hok : InOk t) (hlv : -1000000 ≤ t.live ∧ t.live ≤ 1000000) (h252 : 0 ≤ s.rst 252 ∧ s.rst 252 ≤ 1000000000) (hfree : ∀ k, ¬ isI (1 - g) (O k) ∧ O k ≠ .a 0 8) (la : Option Addr) (lN lc : Nat) (L : List It) (hL : ItsC (core O W) la lN L) (hln : lN ≤ 1000) (h4 : ∀ it ∈ L, it.2.2.length ≤ 4) : Calls Tryz.prog 132 #[.pointer (some ⟨bs, 0, none⟩), .slice la lN lc] W (MrPost O W bs s t L) := by
  obtain ⟨Q, hQ⟩ : ∃ Q, Q = MrPost O W bs s t L := ⟨_, rfl⟩
  rw [← hQ]
  have HQ := hid_of hQ
  have HM := hid_of h
  have HT := hid_of ht
  have HOK := hid_of hok
  have HFREE := hid_of hfree
  obtain ⟨B, bi, rfl, hB, hI⟩ := h.ins t ht
  have HI := hid_of hI
  have HB := hid_of hB
  have hcb := h.cell
  have c0 := h.c.c0
  have cl := h.c.len
  have l0 : 0 < CS.length := by omega
  have hdem := demand_any hI hok.nl la lN lc L (hL.sub (core_sub O W)) (by omega) h4
  have hdl := demF_le t.N t.U L h4
  have hLl := hL.len
  obtain ⟨fr, hfr⟩ : ∃ fr, fr = (demF t.N t.U L).1.length := ⟨_, rfl⟩
  obtain ⟨un, hun⟩ : ∃ un, un = (demF t.N t.U L).2 := ⟨_, rfl⟩
  rw [← hfr, ← hun] at hdem hdl
  have HFR := hid_of hfr
  have HUN := hid_of hun
  have hfr4 : fr ≤ 4000 := by omega
  have hun4 : un ≤ 4000 := by omega
  obtain ⟨lv, hlv'⟩ : ∃ lv, lv = t.live := ⟨_, rfl⟩
  rw [← hlv'] at hlv
  have HLV := hid_of hlv'
  have hnl := hok.nl
  obtain ⟨nn, hnn⟩ : ∃ nn, nn = t.N.length := ⟨_, rfl⟩
  rw [← hnn] at hnl
  have HNN := hid_of hnn
  have HG := hid_of h.gl
  have HSAME : Hid (∀ V code, W.Extends V → MrR t L code t 0 → Q (.returned (.int .i64 code)) V) := by
    intro V code hx hm
    rw [HQ.out]
    refine ⟨code, t, 0, lab O W.heap.size .no, g, rfl, hm, kp_grow hx, ?_, lab_free HFREE.out⟩
    have h9 := HM.out.ext hx
    rw [upR_same]
    refine ⟨CS, _, ia, iN, ic, h9.cell, h9.fre, h9.own, ⟨h9.c.len, h9.c.c0, h9.c.c1, h9.c.c2, h9.c.c3, h9.c.rs⟩, h9.im, h9.gl, fun e => (nomatch e), fun t' e => ?_⟩
    have e' : t = t' := Option.some.inj e
    rw [← e']
    exact h9.ins t HT.out
  clear hQ h ht hok hfree hI hB hdl hLl hfr hun hlv' hnn hL h4
  go_enter Tryz.func132, Tryz.ntmps132
  go_wp2_with fail
  refine hdem.mono ?_
  rintro e V1 ⟨rfl, hx1⟩
  dsimp only
  obtain ⟨CI, bst, be, A, hm1⟩ := HI.out.ext hx1
  have hcb1 : blk V1 bs = some CS := (hx1.blk (blk_lt HM.out.cell)).trans HM.out.cell
  have hbi1 := hm1.cell
  have cil := hm1.ic.len
  have clv := hm1.ic.lv
  have c4 := hm1.ic.c4
  rw [← HLV.out] at clv
  have k4 : 4 < CI.length := by omega
  have k262 : 262 < CI.length := by omega
  have hsy := syms_any hm1.st
  rw [← HNN.out] at hsy
  have HX1 := hid_of hx1
  clear hdem hcb hm1 cil hx1
  by_cases hcap : 256 < lv + (fr : Int)
  · have HP := hid_of (HSAME.out V1 16 HX1.out (.inl ⟨by rw [← HLV.out, ← HFR.out]; exact hcap, rfl, rfl, rfl⟩))
    clear hsy
    go_wp2_with fail
    try go_ret
    exact HP.out
  have HCAP : Hid (¬ 256 < t.live + ((demF t.N t.U L).1.length : Int)) := by rw [← HLV.out, ← HFR.out]; exact hcap
  go_wp2_with fail
  refine hsy.mono ?_
  rintro e V9 ⟨rfl, e9⟩
  replace e9 := e9.symm
  subst e9
  clear hsy
  dsimp only
  by_cases hroom : nn + un ≤ 256
  · have hroom' : (nn : Int) + (un : Int) ≤ 256 := by omega
    have HP := hid_of (HSAME.out V1 0 HX1.out (.inr (.inl ⟨(by have := HCAP.out; omega), by rw [← HNN.out, ← HUN.out]; exact hroom, rfl, rfl, rfl⟩)))
    go_wp2_with fail
    try go_ret
    exact HP.out
  have hroom' : ¬ (nn : Int) + (un : Int) ≤ 256 := by omega
  have HRM : Hid (¬ t.N.length + (demF t.N t.U L).2 ≤ 256) := by rw [← HNN.out, ← HUN.out]; exact hroom
  have hM1 := HM.out.ext HX1.out
  have hI1 := HI.out.new HX1.out
  have hfree1 := lab_free (n := W.heap.size) HFREE.out
  obtain ⟨O1, hO1⟩ : ∃ O1, O1 = lab O W.heap.size .no := ⟨_, rfl⟩
  rw [← hO1] at hM1 hI1 hfree1
  have hK1 : Kp O W O1 V1 := by rw [hO1]; exact kp_grow HX1.out
  have hgg : g ≠ 1 - g := by have := HG.out; omega
  have hcol := collect_any hI1 HOK.out hgg (fun k _ => (hfree1 k).1) (fun k _ => (hfree1 k).2)
  have HM1 := hid_of hM1
  have HK1 := hid_of hK1
  clear hM1 hI1 hfree1 hO1 hK1 hgg
  go_wp2_with fail
  refine hcol.mono ?_
  rintro e V2 ⟨cc, t1, hCR, hres⟩
  rcases hres with ⟨hcc, rfl, hx2⟩ | ⟨rfl, bn, O2, rfl, hF2, hI2⟩
  · have HP := hid_of (HSAME.out V2 17 (HX1.out.trans hx2) (.inr (.inr ⟨(by have := HCAP.out; omega), (by have := HRM.out; omega), cc, t1, hCR, .inl ⟨hcc, rfl, rfl, rfl⟩⟩)))
    have hcb : (cc != 0) = true := by simp [hcc]
    clear hcol hCR hcc hx2
    dsimp only
    go_wp2_with fail
    try go_ret
    exact HP.out
  dsimp only
  have hb2 : blk V2 bs = some CS := hF2.blk HM1.out.cell (fun e => e)
  have hf2 : free V2 bs = true := hF2.free HM1.out.cell HM1.out.fre (fun e => e)
  have ho2 : O2 bs = .a 0 0 := (hF2.keep bs (blk_lt HM1.out.cell)).trans HM1.out.own
  have c252 := HM.out.c.rs 252 (by omega) (by omega)
  obtain ⟨r2, hr2⟩ : ∃ r2, r2 = s.rst 252 := ⟨_, rfl⟩
  rw [← hr2] at c252 h252
  have l252 : 252 < CS.length := by omega
  have m1 : (splice CS 0 [.pointer (some ⟨bn, 0, none⟩)]).length = CS.length := length_splice1 l0
  have m252 : nth (splice CS 0 [.pointer (some ⟨bn, 0, none⟩)]) 252 = some (.int .i64 r2) := by rw [splice_nth l0, if_neg (by omega)]; exact c252
  have l0' : 0 + 1 ≤ CS.length := by omega
  obtain ⟨C1, hC1⟩ : ∃ C1, C1 = splice CS 0 [.pointer (some ⟨bn, 0, none⟩)] := ⟨_, rfl⟩
  rw [← hC1] at m1 m252
  have hsp : splice CS 0 [.pointer (some ⟨bn, 0, none⟩)] = C1 := hC1.symm
  have k252 : 252 < C1.length := by omega
  have k252' : 252 + 1 ≤ C1.length := by omega
  have HP : Hid (Q (.returned (.int .i64 0)) (put V2 bs (splice C1 252 [.int .i64 (r2 + 1)]))) := by
    show Q _ _
    rw [HQ.out]
    have hFp : Fr (fun l => l = .a 0 0) O2 V2 O2 (put V2 bs (splice C1 252 [.int .i64 (r2 + 1)])) := (Fr.refl _ _ _).put (L := fun l => l = .a 0 0) ho2 _
    have hn : ∀ j, nth (splice C1 252 [.int .i64 (r2 + 1)]) j = if j = 252 then some (.int .i64 (r2 + 1)) else if j = 0 then some (.pointer (some ⟨bn, 0, none⟩)) else nth CS j := fun j => by
      rw [splice_nth k252]
      by_cases e : j = 252
      · rw [if_pos e, if_pos e]
      · rw [if_neg e, if_neg e, hC1, splice_nth l0]
    have hcs := HM.out.c
    have hg1 : 1 - g < 2 := by omega
    have hgb : 1 - (1 - g) = g := by have := HG.out; omega
    refine ⟨0, t1, 1, norm (1 - g) O2, 1 - g, rfl, .inr (.inr ⟨(by have := HCAP.out; omega), (by have := HRM.out; omega), 0, t1, hCR, .inr ⟨rfl, rfl, rfl, rfl⟩⟩), ?_, ⟨splice C1 252 [.int .i64 (r2 + 1)], some ⟨bn, 0, none⟩, ia, iN, ic, ?_, ?_, norm_0 ho2, ⟨?_, ?_, ?_, ?_, ?_, ?_⟩, ?_, hg1, fun e => (nomatch e), fun t' e => ?_⟩, fun k => ?_⟩
    · exact ((HK1.out.trans (Kp.fr hF2 (fun _ _ e => e))).trans (Kp.fr hFp (fun l hl e => kept_0 hl e))).norm _
    · rw [blk_put, if_pos rfl, hb2]; rfl
    · rw [free_put]; exact hf2
    · rw [length_splice1 k252]; omega
    · rw [hn, if_neg (by omega), if_pos rfl]
    · rw [hn, if_neg (by omega), if_neg (by omega)]; exact hcs.c1
    · rw [hn, if_neg (by omega), if_neg (by omega)]; exact hcs.c2
    · rw [hn, if_neg (by omega), if_neg (by omega)]; exact hcs.c3
    · intro j hj1 hj2
      rw [hn]
      show _ = some (Value.int .i64 (upR s.rst 252 (s.rst 252 + 1) j))
      unfold upR
      by_cases e : j = 252
      · rw [if_pos e, if_pos e, hr2]
      · rw [if_neg e, if_neg e, if_neg (by omega)]; exact hcs.rs j hj1 hj2
    · have h1 := HM1.out.im.grow (core_fr hF2 (fun e => e))
      have h2 := h1.grow (core_fr hFp (fun e => by cases e))
      exact h2.sub (Sub.cores fun b C hb ho => ⟨hb, norm_no ho⟩)
    · have e' : t1 = t' := Option.some.inj e
      rw [← e']
      have h9 := hI2.fr hFp (fun l hl e => by
        obtain ⟨j, e2 | e2⟩ := hl
        · rw [e2] at e; have := (Lab.a.inj e).1; omega
        · rw [e2] at e; have := (Lab.a.inj e).1; omega) (fun e => by cases e)
      exact ⟨V1.heap.size, bn, rfl, by rw [size_put]; exact hF2.size, h9.relab (fun k l hk hl => norm_I hk hl) (fun k hk => norm_no hk)⟩
    · rw [hgb]
      exact norm_free hg1 HG.out (by have := HG.out; omega) O2 k
  clear hcol hCR hF2 hI2 ho2 hr2 hC1 m1 c252 HCAP HRM HK1 HM1
  go_wp2_with fail
  try go_ret
  exact HP.out
end Go.Proofs.Qxb6500787aGreat
