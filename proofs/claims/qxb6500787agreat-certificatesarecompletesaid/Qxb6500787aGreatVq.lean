
import Derived.Test.Qxb6500787aGreatVp
import Derived.StillTailTactics
import Derived.Deep.QuietTactic
import Derived.BigQuiet
import Derived.Deep.RegionHeld
import Derived.Deep.CutRange
import Derived.Laws.ResultCell
import Derived.Laws.Rows
import Derived.DeepKeys
import Derived.DataBytes
import Derived.Laws.StructEq
import Derived.Laws.AppendOwn
import Derived.Laws.MakeOwn
import Derived.Lib.AppendStr
set_option linter.unusedSimpArgs false
set_option linter.unusedVariables false
namespace Go.Proofs.Qxb6500787aGreat
open Go.RowKit Go.Blk
attribute [local go_sem ↓] execOp_load execOp_store execOp_alloc
attribute [local go_sem] Tryz.ld26 Tryz.st26 Tryz.ld27 Tryz.st27 Tryz.ld28 Tryz.st28 Tryz.ld3 Tryz.st3 Tryz.ld29 Tryz.st29 Tryz.ld44 Tryz.st44 Tryz.ld4 Tryz.st4 Tryz.ld50 Tryz.st50 Tryz.ld32 Tryz.st32 Tryz.ld49 Tryz.st49 Tryz.ld68 Tryz.st68 Tryz.ld9 Tryz.st9 Tryz.ld40 Tryz.st40 Tryz.ld138 Tryz.st138 Tryz.ld139 Tryz.st139 Tryz.ld146 Tryz.st146 Tryz.ld183 Tryz.st183 Tryz.ld184 Tryz.st184 Tryz.ld192 Tryz.st192 Tryz.ld195 Tryz.st195 Tryz.ld217 Tryz.st217 Tryz.ld159 Tryz.st159 Tryz.ld142 Tryz.st142 Tryz.ld2 Tryz.st2 Tryz.ld5 Tryz.st5 Tryz.ld12 Tryz.st12 Tryz.ld21 Tryz.st21 Tryz.ld22 Tryz.st22 Tryz.ld24 Tryz.st24 Tryz.ld58 Tryz.st58 Tryz.ld97 Tryz.st97 Tryz.ld101 Tryz.st101 Tryz.ld116 Tryz.st116 Tryz.ld121 Tryz.st121 Tryz.ld135 Tryz.st135 Tryz.ld136 Tryz.st136 Tryz.ld143 Tryz.st143 Tryz.ld148 Tryz.st148 Tryz.ld154 Tryz.st154 Tryz.ld173 Tryz.st173 Tryz.ld187 Tryz.st187 Tryz.ld222 Tryz.st222 Tryz.ld241 Tryz.st241 Tryz.ld248 Tryz.st248 Tryz.ld268 Tryz.st268 Tryz.ld272 Tryz.st272 Tryz.ld153 Tryz.st153 Tryz.ld255 Tryz.st255 Tryz.ld256 Tryz.st256 Tryz.ld129 Tryz.st129 Tryz.ld152 Tryz.st152 Tryz.ld31 Tryz.st31 Tryz.ld46 Tryz.st46 Tryz.ld52 Tryz.st52 Tryz.ld54 Tryz.st54 Tryz.ld60 Tryz.st60 Tryz.ld70 Tryz.st70 Tryz.ld74 Tryz.st74 Tryz.ld93 Tryz.st93 Tryz.ld141 Tryz.st141 Tryz.ld151 Tryz.st151 Tryz.ld170 Tryz.st170 Tryz.ld186 Tryz.st186 Tryz.ld189 Tryz.st189 Tryz.ld194 Tryz.st194 Tryz.ld197 Tryz.st197 Tryz.ld219 Tryz.st219 Tryz.ld224 Tryz.st224 Tryz.ld230 Tryz.st230 Tryz.ld235 Tryz.st235 Tryz.ld243 Tryz.st243 Tryz.ld247 Tryz.st247 Tryz.ld252 Tryz.st252 Tryz.ld258 Tryz.st258 Tryz.al153 Tryz.al255 Tryz.al256 Tryz.al129 Tryz.al152 Tryz.al31 Tryz.al46 Tryz.al52 Tryz.al54 Tryz.al60 Tryz.al70 Tryz.al74 Tryz.al93 Tryz.al141 Tryz.al151 Tryz.al170 Tryz.al186 Tryz.al189 Tryz.al194 Tryz.al197 Tryz.al219 Tryz.al224 Tryz.al230 Tryz.al235 Tryz.al243 Tryz.al247 Tryz.al252 Tryz.al258
attribute [local go_sem] Request.length_enc Request.ok_enc Request.all_get Request.all_set Request.kind_get Request.kind_set Request.blob_get Request.blob_set Request.items_get Request.items_set Request.pred_get Request.pred_set Request.slots_get Request.slots_set Trace.length_enc Trace.ok_enc Trace.all_get Trace.all_set Trace.op_get Trace.op_set Trace.calls_get Trace.calls_set Item.length_enc Item.ok_enc Item.all_get Item.all_set Item.del_get Item.del_set Item.pred_get Item.pred_set Item.args_get Item.args_set Reply.length_enc Reply.ok_enc Reply.all_get Reply.all_set Reply.code_get Reply.code_set Reply.kind_get Reply.kind_set Reply.index_get Reply.index_set Reply.yes_get Reply.yes_set Reply.preds_get Reply.preds_set Reply.rules_get Reply.rules_set Reply.arity_get Reply.arity_set Reply.rows_get Reply.rows_set Reply.fact_get Reply.fact_set Reply.fact_del_get Reply.fact_del_set Reply.fact_pred_get Reply.fact_pred_set Reply.fact_args_get Reply.fact_args_set GEntry.length_enc GEntry.ok_enc GEntry.all_get GEntry.all_set GEntry.seq_get GEntry.seq_set GEntry.kind_get GEntry.kind_set GEntry.code_get GEntry.code_set GOp.length_enc GOp.ok_enc GOp.all_get GOp.all_set GOp.kind_get GOp.kind_set GOp.raw_get GOp.raw_set Reader.length_enc Reader.ok_enc Reader.all_get Reader.all_set Reader.buf_get Reader.buf_set Reader.at__get Reader.at__set Slot.length_enc Slot.ok_enc Slot.all_get Slot.all_set Slot.bound_get Slot.bound_set Slot.name_get Slot.name_set Session.length_enc Session.ok_enc Session.all_get Session.all_set Session.svc_get Session.svc_set Session.buf_get Session.buf_set Session.closed_get Session.closed_set GProgram.length_enc GProgram.ok_enc GProgram.all_get GProgram.all_set GProgram.pool_get GProgram.pool_set GProgram.preds_get GProgram.preds_set GProgram.rules_get GProgram.rules_set GProgram.strata_get GProgram.strata_set PredInfo.length_enc PredInfo.ok_enc PredInfo.all_get PredInfo.all_set PredInfo.arity_get PredInfo.arity_set PredInfo.base_get PredInfo.base_set PredInfo.stratum_get PredInfo.stratum_set Change.length_enc Change.ok_enc Change.all_get Change.all_set Change.del_get Change.del_set Change.pred_get Change.pred_set Change.t_get Change.t_set Store.length_enc Store.ok_enc Store.all_get Store.all_set Store.names_get Store.names_set Store.arity_get Store.arity_set Store.rows_get Store.rows_set Src.length_enc Src.ok_enc Src.all_get Src.all_set Src.b_get Src.b_set Src.at__get Src.at__set Atom.length_enc Atom.ok_enc Atom.all_get Atom.all_set Atom.pred_get Atom.pred_set Atom.args_get Atom.args_set GRule.length_enc GRule.ok_enc GRule.all_get GRule.all_set GRule.head_get GRule.head_set GRule.body_get GRule.body_set GRule.head_pred_get GRule.head_pred_set GRule.head_args_get GRule.head_args_set Cert.length_enc Cert.ok_enc Cert.all_get Cert.all_set Cert.names_get Cert.names_set Cert.nodes_get Cert.nodes_set Fact.length_enc Fact.ok_enc Fact.all_get Fact.all_set Fact.pred_get Fact.pred_set Fact.t_get Fact.t_set Literal.length_enc Literal.ok_enc Literal.all_get Literal.all_set Literal.neg_get Literal.neg_set Literal.atom_get Literal.atom_set Literal.atom_pred_get Literal.atom_pred_set Literal.atom_args_get Literal.atom_args_set Engine.length_enc Engine.ok_enc Engine.all_get Engine.all_set Engine.prog_get Engine.prog_set Engine.st_get Engine.st_set SrcCertm.length_enc SrcCertm.ok_enc SrcCertm.all_get SrcCertm.all_set SrcCertm.b_get SrcCertm.b_set SrcCertm.at__get SrcCertm.at__set GNode.length_enc GNode.ok_enc GNode.all_get GNode.all_set GNode.rule_get GNode.rule_set GNode.pred_get GNode.pred_set GNode.vals_get GNode.vals_set GNode.refs_get GNode.refs_set Term.length_enc Term.ok_enc Term.all_get Term.all_set Term.var_get Term.var_set Term.n_get Term.n_set Env.length_enc Env.ok_enc Env.all_get Env.all_set Env.val_get Env.val_set Env.set_get Env.set_set
attribute [local go_sem] size_put size_ext blk_put free_put blk_alloc free_alloc blk_drew free_drew blk_ext free_ext lookOr_some putOr_some segAt_some cellAt_some storeIn_some put_put put_alloc_new length_arr ok_arr_u8 ok_arr_u32 ok_arr_u64 ok_arr_i64 ok_arr_sl cellsV_agg cellsV_int cellsV_bool cellsV_string cellsV_pointer cellsV_slice cellsV_sl ok_int ok_bool ok_string ok_pointer ok_slice ok_sl toList_arr seg_arr set_arr nth_splice nth_splice0 seg_splice seg_splice0 splice_splice splice_splice0 length_splice_if
attribute [local go_sem ↓] execOp_box
attribute [local go_sem] box_run nth_arr_u8 put_arr_u8 blk_drewN free_drewN put_drewN blk_raw free_raw
theorem build52q (w : World) (p : Int) (a : Option Addr) (n c : Nat) : (buildOp 67 #[(1, .int .i64 p), (2, .slice a n c)]).run Tryz.prog w = .ok (.value (.agg (Item.enc ⟨false, p, ⟨a, n, c⟩⟩).toArray)) w := by kernel_rfl
/-- A certificate handed in, plainly. -/
def grQ (t : InsS) (xs : List UInt8) : PRep := if (chkF t.p t.N t.R xs).1 ≠ 0 then prZ (chkF t.p t.N t.R xs).1 7 (-1) else ⟨0, 7, -1, false, 0, 0, 0, [], (chkF t.p t.N t.R xs).2.pred, nmsT t.N (chkF t.p t.N t.R xs).2.t (arP t.p (chkF t.p t.N t.R xs).2.pred.toNat)⟩
def grR (s : Sv) (t : InsS) (xs : List UInt8) (q : PRep) (s' : Sv) : Prop := q = grQ t xs ∧ s' = s.low t 7
theorem InOk.ck {t : InsS} (h : InOk t) : CkOk t.p t.R := ⟨h.pok.nD, h.pok.nR, h.pok.ar, h.pok.rl, h.inv.2, fun L hL => by have := cap_of h.cap L hL; omega⟩
attribute [local go_sem ↓] execOp_build
attribute [local go_sem] build52q
set_option maxRecDepth 100000 in
theorem frame57g (f : Nat → Value) : frameN 57 f = #[f 0, f 1, f 2, f 3, f 4, f 5, f 6, f 7, f 8, f 9, f 10, f 11, f 12, f 13, f 14, f 15, f 16, f 17, f 18, f 19, f 20, f 21, f 22, f 23, f 24, f 25, f 26, f 27, f 28, f 29, f 30, f 31, f 32, f 33, f 34, f 35, f 36, f 37, f 38, f 39, f 40, f 41, f 42, f 43, f 44, f 45, f 46, f 47, f 48, f 49, f 50, f 51, f 52, f 53, f 54, f 55, f 56] := by kernel_rfl
set_option maxRecDepth 40000 in
set_option maxHeartbeats 4000000 in
theorem hgrant_any {O : Own} {W : World} {bs g : Nat} {s : Sv} {CS : List Value} {ip ia : Option Addr} {iN ic : Nat} (h : SvM O W bs g s CS ip ia iN ic) (hlow : Low O) {t : InsS} (ht : s.inst = some t) (hok : InOk t) (hcl : 0 ≤ s.calls ∧ s.calls ≤ 100) (a : Option Addr) (n c : Nat) (hn : n ≤ 65536) (hnc : n ≤ c) (hc : c ≤ 9223372036854775807) (xs : List UInt8) (hX : Bs (core O W) a n xs) (hck : (chkF t.p t.N t.R xs).1 = 0 → 0 ≤ (chkF t.p t.N t.R xs).2.pred ∧ (chkF t.p t.N t.R xs).2.pred.toNat < t.p.preds.length ∧ ∀ c, c < arP t.p (chkF t.p t.N t.R xs).2.pred.toNat → 0 ≤ tg (chkF t.p t.N t.R xs).2.t c ∧ (tg (chkF t.p t.N t.R xs).2.t c).toNat < t.N.length) : Calls Tryz.prog 105 #[.pointer (some ⟨bs, 0, none⟩), .slice a n c] W (HdG O W bs (grR s t xs)) := by
  obtain ⟨Q, hQ⟩ : ∃ Q, Q = HdG O W bs (grR s t xs) := ⟨_, rfl⟩
  rw [← hQ]
  have HQ := hid_of hQ
  have HM := hid_of h
  have HT := hid_of ht
  have HOK := hid_of hok
  have HX := hid_of hX
  have HLOW := hid_of hlow
  have HCK := hid_of hck
  obtain ⟨B, bi, rfl, hB, hI⟩ := h.ins t ht
  have HI := hid_of hI
  have c0 := h.c.c0
  have l0 : 0 < CS.length := by rw [h.c.len]; omega
  have hgl := h.gl
  clear hQ h ht hok hX hB hI hlow hck
  go_enter Tryz.func105, Tryz.ntmps105
  go_upto_region 1 with fail
  refine wp_world (fun V => W.Extends V ∧ blk V W.heap.size = some Reply.zero.enc ∧ free V W.heap.size = true ∧ V.heap.size = W.heap.size + 1) ⟨extends_alloc (ext_Ext (Ext.refl _)) _, ?_, ?_, ?_⟩ ?_
  · rw [blk_alloc, if_pos rfl]; try rfl
  · rw [free_alloc, if_pos rfl]
  · rw [World.size_alloc]
  rintro W1 ⟨hx1, hb4, hf4, hsz1⟩
  obtain ⟨O1, hO1⟩ : ∃ O1, O1 = lab O W.heap.size (.a 9 9) := ⟨_, rfl⟩
  have hF1 : Fr (fun _ => False) O W O1 W1 := by rw [hO1]; exact ⟨hx1.os, hx1.tape, hx1.output, hx1.size, fun k hk => lab_lt hk, fun k hk _ => hx1.block k hk⟩
  obtain ⟨b4, e4⟩ : ∃ b4, b4 = W.heap.size := ⟨_, rfl⟩
  rw [← e4] at hb4 hf4 ⊢
  have ho4 : O1 b4 = .a 9 9 := by rw [hO1, e4]; exact lab_ge (by omega)
  have hH1 : HC O W bs b4 O1 W1 g s CS (some ⟨bi, 0, none⟩) ia iN ic := ⟨Kp.fr hF1 (fun _ _ e => e), HM.out.frF hF1, by omega, hb4, hf4, ho4⟩
  have hlow := lower_any hH1.sv.cell hH1.sv.fre hH1.sv.c.len hH1.sv.c.c3 hcl.1 (by omega) 7
  have HH1 := hid_of hH1
  have HF1 := hid_of hF1
  clear hx1 hsz1 hO1 hF1 e4 ho4 hH1 hb4 hf4
  go_wp2_with fail
  refine hlow.mono ?_
  rintro e V2 ⟨rfl, hOn⟩
  dsimp only
  obtain ⟨hFl, hH2⟩ := HH1.out.low 7 hOn
  obtain ⟨CS2, hCS2⟩ : ∃ CS2, CS2 = splice (splice CS 2 [.int .i64 7]) 3 [.int .i64 (s.calls + 1)] := ⟨_, rfl⟩
  rw [← hCS2] at hH2
  have HH2 : Hid (HC O W bs b4 O1 V2 g (s.low t 7) CS2 (some ⟨bi, 0, none⟩) ia iN ic) := by
    have h9 := hH2
    rw [HT.out] at h9
    exact h9
  obtain ⟨B2, bi2, eip, hB2, hI2⟩ := hH2.sv.ins t HT.out
  have ebi : bi = bi2 := congrArg Addr.block (Option.some.inj eip)
  subst ebi
  have hX2 : Bs V2 a n xs := (HX.out.sub (Sub.ext (core_fr HF1.out (fun e => e)))).sub ((Sub.ext (core_fr hFl (isV_no g))).trans (Sub.core _ _))
  have d0 := hH2.sv.c.c0
  have d0l : 0 < CS2.length := by rw [hH2.sv.c.len]; omega
  obtain ⟨CI, bst, be, A, hm2⟩ := hI2
  have ci4 := hm2.ic.c4
  have cil : 4 < CI.length := by rw [hm2.ic.len]; omega
  have HCALL : Hid (∀ V, V2.Extends V → Calls Tryz.prog 110 #[.pointer (some ⟨bi, 0, none⟩), .pointer (some ⟨bst, 0, none⟩), .slice a n c] V fun e V' => e = .returned (.tuple #[.int .i64 (chkF t.p t.N t.R xs).2.pred, .agg (arr i64v (chkF t.p t.N t.R xs).2.t).toArray, .int .i64 (chkF t.p t.N t.R xs).1]) ∧ V.Extends V') := fun V hx => check_any (hm2.ext hx).st HOK.out.nl (ProgL.c (hm2.ext hx).progL) HOK.out.ck a n c hn hnc hc xs (hX2.grow hx)
  obtain ⟨cp, hcp⟩ : ∃ cp, cp = (chkF t.p t.N t.R xs).2.pred := ⟨_, rfl⟩
  obtain ⟨ct, hct⟩ : ∃ ct, ct = (chkF t.p t.N t.R xs).2.t := ⟨_, rfl⟩
  obtain ⟨cd, hcd⟩ : ∃ cd, cd = (chkF t.p t.N t.R xs).1 := ⟨_, rfl⟩
  rw [← hcp, ← hct, ← hcd] at HCALL
  have HCP := hid_of hcp
  have HCT := hid_of hct
  have HCD := hid_of hcd
  have HMI := hid_of hm2
  have hSd : blk V2.drew bs = some CS2 ∧ blk V2.drew bi = some CI := ⟨hH2.sv.cell, hm2.cell⟩
  have HSS : Hid (∀ V, V2.Extends V → blk V bs = some CS2 ∧ blk V bi = some CI) := fun V hx => ⟨(hx.blk (blk_lt hSd.1)).trans hSd.1, (hx.blk (blk_lt hSd.2)).trans hSd.2⟩
  have HLT : Hid (bs < V2.heap.size ∧ bi < V2.heap.size) := ⟨blk_lt hSd.1, blk_lt hSd.2⟩
  obtain ⟨R2, hR2⟩ : ∃ R2 : Act → Act → World → Prop, R2 = fun a0 a' w' => ∃ (b6 : Nat) (f : Nat → Value), a' = ⟨frameN 57 f, []⟩ ∧ f 0 = .pointer (some ⟨bs, 0, none⟩) ∧ f 4 = .pointer (some ⟨b4, 0, none⟩) ∧ f 5 = .int .i64 cp ∧ f 6 = .pointer (some ⟨b6, 0, none⟩) ∧ f 7 = .int .i64 cd ∧ Hid (V2.Extends w' ∧ blk w' b6 = some (arr i64v ct) ∧ V2.heap.size ≤ b6) := ⟨_, rfl⟩
  have HR2 := hid_of hR2
  clear hlow hOn hFl hH2 hCS2 hB2 hX2 hm2 eip hcp hct hcd hR2 HH1 HF1 c0 l0
  go_upto_region 2 with fail
  refine wp_cutR R2 ?_ ?_
  · rw [HR2.out]
    clear HR2
    refine wp_region_held_drew (S := fun W' => blk W' bs = some CS2 ∧ blk W' bi = some CI) (by kernel_rfl) hSd (fun hHeld => ?_)
    refine wpAnyH_take (i := 0) (oi := ⟨_, _, _, _, _, _⟩) (v := ?_) rfl (by kernel_rfl) (by kernel_rfl) (by kernel_rfl) (fun _ _ _ h => nomatch h.1) (Or.inl ⟨by rfl, ?_⟩) (by assumption) ?_
    rotate_left 1
    · intro W' hSw
      obtain ⟨hS1, hS2⟩ := hSw
      go_simp
      try with_reducible rfl
    try simp only [Act.put, List.setIfInBounds_toArray, List.set_cons_zero, List.set_cons_succ]
    refine wpAnyH_take (i := 1) (oi := ⟨_, _, _, _, _, _⟩) (v := ?_) rfl (by kernel_rfl) (by kernel_rfl) (by kernel_rfl) (fun _ _ _ h => nomatch h.1) (Or.inl ⟨by rfl, ?_⟩) (by assumption) ?_
    rotate_left 1
    · intro W' hSw
      obtain ⟨hS1, hS2⟩ := hSw
      go_simp
      try with_reducible rfl
    try simp only [Act.put, List.setIfInBounds_toArray, List.set_cons_zero, List.set_cons_succ]
    refine wpAnyH_take (i := 2) (oi := ⟨_, _, _, _, _, _⟩) (v := ?_) rfl (by kernel_rfl) (by kernel_rfl) (by kernel_rfl) (fun _ _ _ h => nomatch h.1) (Or.inl ⟨by rfl, ?_⟩) (by assumption) ?_
    rotate_left 1
    · intro W' hSw
      obtain ⟨hS1, hS2⟩ := hSw
      go_simp
      try with_reducible rfl
    try simp only [Act.put, List.setIfInBounds_toArray, List.set_cons_zero, List.set_cons_succ]
    refine wpAnyH_take (i := 3) (oi := ⟨_, _, _, _, _, _⟩) (v := ?_) rfl (by kernel_rfl) (by kernel_rfl) (by kernel_rfl) (fun _ _ _ h => nomatch h.1) (Or.inl ⟨by rfl, ?_⟩) (by assumption) ?_
    rotate_left 1
    · intro W' hSw
      obtain ⟨hS1, hS2⟩ := hSw
      go_simp
      try with_reducible rfl
    try simp only [Act.put, List.setIfInBounds_toArray, List.set_cons_zero, List.set_cons_succ]
    refine wpAnyH_take (i := 4) (oi := ⟨_, _, _, _, _, _⟩) (v := ?_) rfl (by kernel_rfl) (by kernel_rfl) (by kernel_rfl) (fun _ _ _ h => nomatch h.1) (Or.inl ⟨by rfl, ?_⟩) (by assumption) ?_
    rotate_left 1
    · intro W' hSw
      obtain ⟨hS1, hS2⟩ := hSw
      go_simp
      try with_reducible rfl
    try simp only [Act.put, List.setIfInBounds_toArray, List.set_cons_zero, List.set_cons_succ]
    refine wpAnyH_take (i := 5) (oi := ⟨_, _, _, _, _, _⟩) (v := ?_) rfl (by kernel_rfl) (by kernel_rfl) (by kernel_rfl) (fun _ _ _ h => nomatch h.1) (Or.inl ⟨by rfl, ?_⟩) (by assumption) ?_
    rotate_left 1
    · intro W' hSw
      obtain ⟨hS1, hS2⟩ := hSw
      go_simp
      try with_reducible rfl
    try simp only [Act.put, List.setIfInBounds_toArray, List.set_cons_zero, List.set_cons_succ]
    refine wpAnyH_take (i := 6) (oi := ⟨_, _, _, _, _, _⟩) (v := ?_) rfl (by kernel_rfl) (by kernel_rfl) (by kernel_rfl) (fun _ _ _ h => nomatch h.1) (Or.inl ⟨by rfl, ?_⟩) (by assumption) ?_
    rotate_left 1
    · intro W' hSw
      obtain ⟨hS1, hS2⟩ := hSw
      go_simp
      try with_reducible rfl
    try simp only [Act.put, List.setIfInBounds_toArray, List.set_cons_zero, List.set_cons_succ]
    refine wpAnyH_take (i := 7) (oi := ⟨_, _, _, _, _, _⟩) (v := ?_) rfl (by kernel_rfl) (by kernel_rfl) (by kernel_rfl) (fun _ _ _ h => nomatch h.1) (Or.inl ⟨by rfl, ?_⟩) (by assumption) ?_
    rotate_left 1
    · intro W' hSw
      obtain ⟨hS1, hS2⟩ := hSw
      go_simp
      try with_reducible rfl
    try simp only [Act.put, List.setIfInBounds_toArray, List.set_cons_zero, List.set_cons_succ]
    refine wpAnyH_take (i := 8) (oi := ⟨_, _, _, _, _, _⟩) (v := ?_) rfl (by kernel_rfl) (by kernel_rfl) (by kernel_rfl) (fun _ _ _ h => nomatch h.1) (Or.inl ⟨by rfl, ?_⟩) (by assumption) ?_
    rotate_left 1
    · intro W' hSw
      obtain ⟨hS1, hS2⟩ := hSw
      go_simp
      try with_reducible rfl
    try simp only [Act.put, List.setIfInBounds_toArray, List.set_cons_zero, List.set_cons_succ]
    refine wpAnyH_take (i := 9) (oi := ⟨_, _, _, _, _, _⟩) (v := ?_) rfl (by kernel_rfl) (by kernel_rfl) (by kernel_rfl) (fun _ _ _ h => nomatch h.1) (Or.inl ⟨by rfl, ?_⟩) (by assumption) ?_
    rotate_left 1
    · intro W' hSw
      obtain ⟨hS1, hS2⟩ := hSw
      go_simp
      try with_reducible rfl
    try simp only [Act.put, List.setIfInBounds_toArray, List.set_cons_zero, List.set_cons_succ]
    refine wpAnyH_take (i := 10) (oi := ⟨_, _, _, _, _, _⟩) (v := ?_) rfl (by kernel_rfl) (by kernel_rfl) (by kernel_rfl) (fun _ _ _ h => nomatch h.1) (Or.inl ⟨by rfl, ?_⟩) (by assumption) ?_
    rotate_left 1
    · intro W' hSw
      obtain ⟨hS1, hS2⟩ := hSw
      go_simp
      try with_reducible rfl
    try simp only [Act.put, List.setIfInBounds_toArray, List.set_cons_zero, List.set_cons_succ]
    refine wpAnyH_take (i := 11) (oi := ⟨_, _, _, _, _, _⟩) (v := ?_) rfl (by kernel_rfl) (by kernel_rfl) (by kernel_rfl) (fun _ _ _ h => nomatch h.1) (Or.inl ⟨by rfl, ?_⟩) (by assumption) ?_
    rotate_left 1
    · intro W' hSw
      obtain ⟨hS1, hS2⟩ := hSw
      go_simp
      try with_reducible rfl
    try simp only [Act.put, List.setIfInBounds_toArray, List.set_cons_zero, List.set_cons_succ]
    refine wpAnyH_take (i := 12) (oi := ⟨_, _, _, _, _, _⟩) (v := ?_) rfl (by kernel_rfl) (by kernel_rfl) (by kernel_rfl) (fun _ _ _ h => nomatch h.1) (Or.inl ⟨by rfl, ?_⟩) (by assumption) ?_
    rotate_left 1
    · intro W' hSw
      obtain ⟨hS1, hS2⟩ := hSw
      go_simp
      try with_reducible rfl
    try simp only [Act.put, List.setIfInBounds_toArray, List.set_cons_zero, List.set_cons_succ]
    refine wpAnyH_take (i := 13) (oi := ⟨_, _, _, _, _, _⟩) (v := ?_) rfl (by kernel_rfl) (by kernel_rfl) (by kernel_rfl) (fun _ _ _ h => nomatch h.1) (Or.inl ⟨by rfl, ?_⟩) (by assumption) ?_
    rotate_left 1
    · intro W' hSw
      obtain ⟨hS1, hS2⟩ := hSw
      go_simp
      try with_reducible rfl
    try simp only [Act.put, List.setIfInBounds_toArray, List.set_cons_zero, List.set_cons_succ]
    refine wpAnyH_ready (rs := [14, 19]) (by kernel_rfl) (by simp) ?_
    refine AllReadyH.cons (o := ⟨_, _, _, _, _, _⟩) rfl (fun K' hK => ?_) (AllReadyH.cons (o := ⟨_, _, _, _, _, _⟩) rfl (fun K' hK => ?_) AllReadyH.nil)
    · go_simp
      refine (HCALL.out _ (extd V2)).mono ?_
      rintro en V5 ⟨rfl, hx5⟩
      dsimp only
      have hx25 : V2.Extends V5 := (extd V2).trans hx5
      have hSA : ∀ X, blk (V5.alloc X) bs = some CS2 ∧ blk (V5.alloc X) bi = some CI := fun X => HSS.out _ (extends_alloc hx25 _)
      refine hK.out _ _ (HSS.out _ hx25) (fun hHeld => ?_)
      clear hK K'
      try simp only [Act.put, List.setIfInBounds_toArray, List.set_cons_zero, List.set_cons_succ]
      refine wpAnyH_take (i := 15) (oi := ⟨_, _, _, _, _, _⟩) (v := ?_) rfl (by kernel_rfl) (by kernel_rfl) (by kernel_rfl) (fun _ _ _ h => nomatch h.1) (Or.inl ⟨by rfl, ?_⟩) (by assumption) ?_
      rotate_left 1
      · intro W' hSw
        obtain ⟨hS1, hS2⟩ := hSw
        go_simp
        try with_reducible rfl
      try simp only [Act.put, List.setIfInBounds_toArray, List.set_cons_zero, List.set_cons_succ]
      refine wpAnyH_take (i := 16) (oi := ⟨_, _, _, _, _, _⟩) (v := ?_) rfl (by kernel_rfl) (by kernel_rfl) (by kernel_rfl) (fun _ _ _ h => nomatch h.1) (Or.inl ⟨by rfl, ?_⟩) (by assumption) ?_
      rotate_left 1
      · intro W' hSw
        obtain ⟨hS1, hS2⟩ := hSw
        go_simp
        try with_reducible rfl
      try simp only [Act.put, List.setIfInBounds_toArray, List.set_cons_zero, List.set_cons_succ]
      refine wpAnyH_take (i := 17) (oi := ⟨_, _, _, _, _, _⟩) (v := ?_) rfl (by kernel_rfl) (by kernel_rfl) (by kernel_rfl) (fun _ _ _ h => nomatch h.1) (Or.inl ⟨by rfl, ?_⟩) (by assumption) ?_
      rotate_left 1
      · intro W' hSw
        obtain ⟨hS1, hS2⟩ := hSw
        go_simp
        try with_reducible rfl
      try simp only [Act.put, List.setIfInBounds_toArray, List.set_cons_zero, List.set_cons_succ]
      refine wpAnyH_take (i := 18) (oi := ⟨_, _, _, _, _, _⟩) (v := ?_) rfl (by kernel_rfl) (by kernel_rfl) (by kernel_rfl) (fun _ _ _ h => nomatch h.1) (Or.inl ⟨by rfl, ?_⟩) (by assumption) ?_
      rotate_left 1
      · intro W' hSw
        obtain ⟨hS1, hS2⟩ := hSw
        go_simp
        try with_reducible rfl
      try simp only [Act.put, List.setIfInBounds_toArray, List.set_cons_zero, List.set_cons_succ]
      refine wpAnyH_ready (rs := [19]) (by kernel_rfl) (by simp) ?_
      refine AllReadyH.cons (o := ⟨_, _, _, _, _, _⟩) rfl (fun K' hK => ?_) AllReadyH.nil
      go_simp
      refine hK.out _ _ (hSA _) (fun hHeld => ?_)
      clear hK K'
      try simp only [Act.put, List.setIfInBounds_toArray, List.set_cons_zero, List.set_cons_succ]
      refine wpAnyH_take (i := 20) (oi := ⟨_, _, _, _, _, _⟩) (v := ?_) rfl (by kernel_rfl) (by kernel_rfl) (by kernel_rfl) (fun _ _ _ h => nomatch h.1) (Or.inl ⟨by rfl, ?_⟩) (by assumption) ?_
      rotate_left 1
      · intro W' hSw
        obtain ⟨hS1, hS2⟩ := hSw
        go_simp
        try with_reducible rfl
      try simp only [Act.put, List.setIfInBounds_toArray, List.set_cons_zero, List.set_cons_succ]
      refine wpAnyH_ready (rs := [21]) (by kernel_rfl) (by simp) ?_
      refine AllReadyH.cons (o := ⟨_, _, _, _, _, _⟩) rfl (fun K' hK => ?_) AllReadyH.nil
      go_simp
      refine hK.out _ _ (hSA _) (fun hHeld => ?_)
      clear hK K'
      try simp only [Act.put, List.setIfInBounds_toArray, List.set_cons_zero, List.set_cons_succ]
      refine wpAnyH_take (i := 22) (oi := ⟨_, _, _, _, _, _⟩) (v := ?_) rfl (by kernel_rfl) (by kernel_rfl) (by kernel_rfl) (fun _ _ _ h => nomatch h.1) (Or.inl ⟨by rfl, ?_⟩) (by assumption) ?_
      rotate_left 1
      · intro W' hSw
        obtain ⟨hS1, hS2⟩ := hSw
        go_simp
        try with_reducible rfl
      try simp only [Act.put, List.setIfInBounds_toArray, List.set_cons_zero, List.set_cons_succ]
      refine wpAnyH_done (by kernel_rfl) ?_ _
      refine ⟨rfl, V5.heap.size, cut_intro _ rfl ⟨rfl, rfl, rfl, rfl, rfl, ?_⟩⟩
      exact ⟨extends_alloc hx25 _, by rw [blk_alloc, if_pos rfl], hx25.size⟩
    · go_simp
      first | rw [show (V2.alloc (.cells (arr i64v (Vector.replicate 4 (0 : Int))).toArray 214)).drew = V2.drew.alloc (.cells (arr i64v (Vector.replicate 4 (0 : Int))).toArray 214) from rfl] | rw [show (V2.alloc (.cells (arr i64v (Vector.replicate 4 (0 : Int))).toArray 214)).drewN 1 = V2.drew.alloc (.cells (arr i64v (Vector.replicate 4 (0 : Int))).toArray 214) from rfl] | skip
      have hxa : V2.Extends (V2.drew.alloc (.cells (arr i64v (Vector.replicate 4 (0 : Int))).toArray 214)) := (extd V2).trans (extends_alloc (ext_Ext (Ext.refl _)) _)
      have hba : blk (V2.drew.alloc (.cells (arr i64v (Vector.replicate 4 (0 : Int))).toArray 214)) V2.heap.size = some (arr i64v (Vector.replicate 4 (0 : Int))) := by rw [blk_alloc, if_pos (show V2.heap.size = V2.drew.heap.size from rfl)]
      have hfa : free (V2.drew.alloc (.cells (arr i64v (Vector.replicate 4 (0 : Int))).toArray 214)) V2.heap.size = true := by rw [free_alloc, if_pos (show V2.heap.size = V2.drew.heap.size from rfl)]
      have HXA := hid_of hxa
      have HBA : Hid (blk (V2.drew.alloc (.cells (arr i64v (Vector.replicate 4 (0 : Int))).toArray 214)) V2.heap.size = some (arr i64v (Vector.replicate 4 (0 : Int))) ∧ free (V2.drew.alloc (.cells (arr i64v (Vector.replicate 4 (0 : Int))).toArray 214)) V2.heap.size = true) := ⟨hba, hfa⟩
      have nis : ¬ bi = V2.heap.size := by have := HLT.out.2; omega
      have nss : ¬ bs = V2.heap.size := by have := HLT.out.1; omega
      clear hxa hba hfa
      refine hK.out _ _ (HSS.out _ HXA.out) (fun hHeld => ?_)
      clear hK K'
      try simp only [Act.put, List.setIfInBounds_toArray, List.set_cons_zero, List.set_cons_succ]
      refine wpAnyH_ready (rs := [14]) (by kernel_rfl) (by simp) ?_
      refine AllReadyH.cons (o := ⟨_, _, _, _, _, _⟩) rfl (fun K' hK => ?_) AllReadyH.nil
      go_simp
      refine (HCALL.out _ HXA.out).mono ?_
      rintro en V5 ⟨rfl, hx5⟩
      dsimp only
      have hx25 : V2.Extends V5 := HXA.out.trans hx5
      have hbz : blk V5 V2.heap.size = some (arr i64v (Vector.replicate 4 (0 : Int))) := (hx5.blk (blk_lt HBA.out.1)).trans HBA.out.1
      have hfz : free V5 V2.heap.size = true := (free_of_heap (hx5.block V2.heap.size (blk_lt HBA.out.1))).trans HBA.out.2
      have hSB : ∀ C, blk (put V5 V2.heap.size C) bs = some CS2 ∧ blk (put V5 V2.heap.size C) bi = some CI := fun C => ⟨by rw [blk_put, if_neg nss]; exact (HSS.out _ hx25).1, by rw [blk_put, if_neg nis]; exact (HSS.out _ hx25).2⟩
      refine hK.out _ _ (HSS.out _ hx25) (fun hHeld => ?_)
      clear hK K'
      try simp only [Act.put, List.setIfInBounds_toArray, List.set_cons_zero, List.set_cons_succ]
      refine wpAnyH_take (i := 15) (oi := ⟨_, _, _, _, _, _⟩) (v := ?_) rfl (by kernel_rfl) (by kernel_rfl) (by kernel_rfl) (fun _ _ _ h => nomatch h.1) (Or.inl ⟨by rfl, ?_⟩) (by assumption) ?_
      rotate_left 1
      · intro W' hSw
        obtain ⟨hS1, hS2⟩ := hSw
        go_simp
        try with_reducible rfl
      try simp only [Act.put, List.setIfInBounds_toArray, List.set_cons_zero, List.set_cons_succ]
      refine wpAnyH_take (i := 16) (oi := ⟨_, _, _, _, _, _⟩) (v := ?_) rfl (by kernel_rfl) (by kernel_rfl) (by kernel_rfl) (fun _ _ _ h => nomatch h.1) (Or.inl ⟨by rfl, ?_⟩) (by assumption) ?_
      rotate_left 1
      · intro W' hSw
        obtain ⟨hS1, hS2⟩ := hSw
        go_simp
        try with_reducible rfl
      try simp only [Act.put, List.setIfInBounds_toArray, List.set_cons_zero, List.set_cons_succ]
      refine wpAnyH_take (i := 17) (oi := ⟨_, _, _, _, _, _⟩) (v := ?_) rfl (by kernel_rfl) (by kernel_rfl) (by kernel_rfl) (fun _ _ _ h => nomatch h.1) (Or.inl ⟨by rfl, ?_⟩) (by assumption) ?_
      rotate_left 1
      · intro W' hSw
        obtain ⟨hS1, hS2⟩ := hSw
        go_simp
        try with_reducible rfl
      try simp only [Act.put, List.setIfInBounds_toArray, List.set_cons_zero, List.set_cons_succ]
      refine wpAnyH_take (i := 18) (oi := ⟨_, _, _, _, _, _⟩) (v := ?_) rfl (by kernel_rfl) (by kernel_rfl) (by kernel_rfl) (fun _ _ _ h => nomatch h.1) (Or.inl ⟨by rfl, ?_⟩) (by assumption) ?_
      rotate_left 1
      · intro W' hSw
        obtain ⟨hS1, hS2⟩ := hSw
        go_simp
        try with_reducible rfl
      try simp only [Act.put, List.setIfInBounds_toArray, List.set_cons_zero, List.set_cons_succ]
      refine wpAnyH_take (i := 20) (oi := ⟨_, _, _, _, _, _⟩) (v := ?_) rfl (by kernel_rfl) (by kernel_rfl) (by kernel_rfl) (fun _ _ _ h => nomatch h.1) (Or.inl ⟨by rfl, ?_⟩) (by assumption) ?_
      rotate_left 1
      · intro W' hSw
        obtain ⟨hS1, hS2⟩ := hSw
        go_simp
        try with_reducible rfl
      try simp only [Act.put, List.setIfInBounds_toArray, List.set_cons_zero, List.set_cons_succ]
      refine wpAnyH_ready (rs := [21]) (by kernel_rfl) (by simp) ?_
      refine AllReadyH.cons (o := ⟨_, _, _, _, _, _⟩) rfl (fun K' hK => ?_) AllReadyH.nil
      go_simp
      refine hK.out _ _ (hSB _) (fun hHeld => ?_)
      clear hK K'
      try simp only [Act.put, List.setIfInBounds_toArray, List.set_cons_zero, List.set_cons_succ]
      refine wpAnyH_take (i := 22) (oi := ⟨_, _, _, _, _, _⟩) (v := ?_) rfl (by kernel_rfl) (by kernel_rfl) (by kernel_rfl) (fun _ _ _ h => nomatch h.1) (Or.inl ⟨by rfl, ?_⟩) (by assumption) ?_
      rotate_left 1
      · intro W' hSw
        obtain ⟨hS1, hS2⟩ := hSw
        go_simp
        try with_reducible rfl
      try simp only [Act.put, List.setIfInBounds_toArray, List.set_cons_zero, List.set_cons_succ]
      refine wpAnyH_done (by kernel_rfl) ?_ _
      refine ⟨rfl, V2.heap.size, cut_intro _ rfl ⟨rfl, rfl, rfl, rfl, rfl, ?_⟩⟩
      exact ⟨extends_put hx25 (Nat.le_refl _) _, by rw [blk_put, if_pos rfl, hbz]; rfl, Nat.le_refl _⟩
  rw [HR2.out]
  rintro _ V5 ⟨b6, f5, rfl, f0, f4', f5', f6, f7, H5⟩
  rw [frame57g, f0, f4', f5', f6, f7]
  clear f0 f4' f5' f6 f7 hSd HCALL
  have HH5 := hid_of (HH2.out.grow H5.out.1 .no)
  by_cases hc2 : cd = 0
  rotate_left 1
  · have hrf := refuse_any V5 7 cd
    have HRP : Hid (∀ V, V5.Extends V → Q (.returned (.agg (Reply.enc (repZ cd 7 (-1))).toArray)) (put V b4 (Reply.enc (repZ cd 7 (-1))))) := fun V hx => by
      rw [HQ.out]
      exact (HH5.out.ext hx).finG HLOW.out (⟨by unfold grQ; rw [if_pos (by rw [← HCD.out]; exact hc2), ← HCD.out]; rfl, rfl⟩) ((bare_Z _ _ _).c _)
    have HB4 : Hid (blk V5 b4 = some Reply.zero.enc ∧ free V5 b4 = true) := ⟨HH5.out.rc, HH5.out.rf⟩
    have rl := Reply.length_enc (repZ cd 7 (-1))
    have ro := Reply.ok_enc (repZ cd 7 (-1))
    have rs := Reply.all_set Reply.zero (repZ cd 7 (-1))
    obtain ⟨RE, hRE⟩ : ∃ RE, RE = Reply.enc (repZ cd 7 (-1)) := ⟨_, rfl⟩
    rw [← hRE] at hrf HRP rl ro rs
    clear hRE
    have hcb : (cd != 0) = true := by simp [hc2]
    clear hc2
    go_wp2_with fail
    refine hrf.mono ?_
    rintro e Vr ⟨rfl, hxr⟩
    have hb4 := (hxr.blk (blk_lt HB4.out.1)).trans HB4.out.1
    have hf4 := (free_of_heap (hxr.block b4 (blk_lt HB4.out.1))).trans HB4.out.2
    have HP := hid_of (HRP.out Vr hxr)
    clear hrf hxr HRP
    dsimp only
    go_wp2_with fail
    refine ret_cell (C := RE) rfl rfl ?_ (by kernel_rfl) (by rw [rl]; kernel_rfl) rfl HP.out
    first | (rw [blk_put, if_pos rfl, hb4]; rfl) | (simp only [blk_put, if_true, hb4, Option.map_some]; try rfl)
  obtain ⟨hp0, hp1, hp2⟩ := HCK.out (by rw [← HCD.out]; exact hc2)
  rw [← HCP.out] at hp0 hp1 hp2
  rw [← HCT.out] at hp2
  obtain ⟨pr, hpr⟩ : ∃ pr : Nat, cp = (pr : Int) := ⟨cp.toNat, by omega⟩
  have hprn : cp.toNat = pr := by omega
  rw [hprn] at hp1 hp2
  have HQE : Hid (grQ t xs = ⟨0, 7, -1, false, 0, 0, 0, [], (pr : Int), nmsT t.N ct (arP t.p pr)⟩) := by
    show _ = _
    unfold grQ
    rw [if_neg (fun h9 => h9 (by rw [← HCD.out]; exact hc2)), ← HCP.out, ← HCT.out, hprn, hpr]
  subst hc2
  subst hpr
  clear hp0 hprn HCD HCP HCT HCK
  have hac := accept_any V5 7
  obtain ⟨R0, hR0⟩ : ∃ R0, R0 = repZ 0 7 (-1) := ⟨_, rfl⟩
  rw [← hR0] at hac
  have HR0 := hid_of hR0
  have rl := Reply.length_enc R0
  have ro := Reply.ok_enc R0
  have rs := Reply.all_set Reply.zero R0
  clear hR0
  go_wp2_with fail
  refine hac.mono ?_
  rintro e V6 ⟨rfl, hx6⟩
  dsimp only
  clear hac
  go_upto_region 6 with fail
  refine wp_world (fun V => V5.Extends V ∧ blk V V6.heap.size = some (Reply.enc R0) ∧ free V V6.heap.size = true ∧ V5.heap.size ≤ V6.heap.size) ⟨?_, ?_, ?_, hx6.size⟩ ?_
  · exact hx6.trans (extends_alloc (ext_Ext (Ext.refl _)) _)
  · rw [blk_alloc, if_pos rfl]
  · rw [free_alloc, if_pos rfl]
  rintro V7 ⟨hx7, hb8, hf8, hw8⟩
  obtain ⟨b8, e8⟩ : ∃ b8, b8 = V6.heap.size := ⟨_, rfl⟩
  rw [← e8] at hb8 hf8 hw8 ⊢
  have hx27 : V2.Extends V7 := H5.out.1.trans hx7
  have hm7 := HMI.out.ext hx27
  obtain ⟨Ce, pa, pc, da, dc, ra0, rc0, z1, z2, z3, z4, z5, z6, z7, z8, z9⟩ := (ProgL.c HMI.out.progL).cells
  obtain rfl : CI = Ce := Option.some.inj (HMI.out.cell.symm.trans z1)
  obtain ⟨bd, Cd, d1, d2, d3, d4, d5, d6, d7⟩ := pred_at z8 (pI_at hp1)
  subst d1
  have HLD : Hid (bd < V2.heap.size) := blk_lt d2
  replace d2 := (hx27.blk (blk_lt d2)).trans d2
  obtain ⟨har1, har2⟩ := pI_ar HOK.out.pok hp1
  rw [har1] at d4
  obtain ⟨ar, har⟩ : ∃ ar, ar = arP t.p pr := ⟨_, rfl⟩
  rw [← har] at d4 hp2 har2
  have HAR := hid_of har
  have hb6 : blk V7 b6 = some (arr i64v ct) := (hx7.blk (blk_lt H5.out.2.1)).trans H5.out.2.1
  have hnm := names_any (W := V7.drew) (InsAt.ext (s := t) (B := B2) (O := O1) (g := g) (bi := bi) ⟨_, _, _, _, hm7⟩ (extd V7)) ct ar har2 hp2
  have HX27 := hid_of hx27
  have HX7 := hid_of hx7
  have hSd : (blk V7.drew bs = some CS2 ∧ blk V7.drew bi = some CI) ∧ blk V7.drew bd = some Cd ∧ blk V7.drew b6 = some (arr i64v ct) := ⟨HSS.out _ (hx27.trans (extd V7)), d2, hb6⟩
  have HSX : Hid (∀ V, V7.Extends V → (blk V bs = some CS2 ∧ blk V bi = some CI) ∧ blk V bd = some Cd ∧ blk V b6 = some (arr i64v ct)) := fun V hx => ⟨HSS.out _ (hx27.trans hx), (hx.blk (blk_lt d2)).trans d2, (hx.blk (blk_lt hb6)).trans hb6⟩
  have q0 : pr * 3 < Cd.length := by omega
  have z1l : 1 < CI.length := by omega
  have hlb : (arr i64v ct).length = 4 := length_arr _ _
  have sgT : seg (arr i64v ct) 0 4 = arr i64v ct := seg_all _ _ hlb
  have p0 : (0 : Int) ≤ (pr : Int) := by omega
  have p2 : ((pr : Int)).toNat = pr := by omega
  obtain ⟨np, hnp⟩ : ∃ np, np = t.p.preds.length := ⟨_, rfl⟩
  rw [← hnp] at z4 hp1
  have p1 : (pr : Int) < (np : Int) := by omega
  have n8s : ¬ b8 = bs := fun e => by have h1 := HLT.out.1; have h2 := H5.out.1.size; omega
  have n8i : ¬ b8 = bi := fun e => by have h1 := HLT.out.2; have h2 := H5.out.1.size; omega
  have n8d : ¬ b8 = bd := fun e => by have h1 := HLD.out; have h2 := H5.out.1.size; omega
  have n86 : ¬ b8 = b6 := fun e => by have h1 := blk_lt H5.out.2.1; omega
  have n84 : ¬ b8 = b4 := fun e => by have h1 := blk_lt HH5.out.rc; omega
  have HB8 : Hid (blk V7 b8 = some (Reply.enc R0) ∧ free V7 b8 = true ∧ V5.heap.size ≤ b8) := ⟨hb8, hf8, hw8⟩
  clear hx6 e8 hx7 hx27 hm7 z1 z2 z3 z5 z6 z7 z8 z9 d2 d3 d5 d6 d7 har1 har hb6 hb8 hf8 hw8 hnp rl ro rs
  refine wp_region_held_drew (S := fun W' => (blk W' bs = some CS2 ∧ blk W' bi = some CI) ∧ blk W' bd = some Cd ∧ blk W' b6 = some (arr i64v ct)) (by kernel_rfl) hSd (fun hHeld => ?_)
  refine wpAnyH_take (i := 0) (oi := ⟨_, _, _, _, _, _⟩) (v := ?_) rfl (by kernel_rfl) (by kernel_rfl) (by kernel_rfl) (fun _ _ _ h => h) (Or.inl ⟨by rfl, ?_⟩) (by assumption) ?_
  rotate_left 1
  · intro W' hSw
    obtain ⟨⟨hS1, hS2⟩, hS3, hS4⟩ := hSw
    go_simp
    try with_reducible rfl
  try simp only [Act.put, List.setIfInBounds_toArray, List.set_cons_zero, List.set_cons_succ]
  refine wpAnyH_take (i := 1) (oi := ⟨_, _, _, _, _, _⟩) (v := ?_) rfl (by kernel_rfl) (by kernel_rfl) (by kernel_rfl) (fun _ _ _ h => h) (Or.inl ⟨by rfl, ?_⟩) (by assumption) ?_
  rotate_left 1
  · intro W' hSw
    obtain ⟨⟨hS1, hS2⟩, hS3, hS4⟩ := hSw
    go_simp
    try with_reducible rfl
  try simp only [Act.put, List.setIfInBounds_toArray, List.set_cons_zero, List.set_cons_succ]
  refine wpAnyH_take (i := 2) (oi := ⟨_, _, _, _, _, _⟩) (v := ?_) rfl (by kernel_rfl) (by kernel_rfl) (by kernel_rfl) (fun _ _ _ h => h) (Or.inl ⟨by rfl, ?_⟩) (by assumption) ?_
  rotate_left 1
  · intro W' hSw
    obtain ⟨⟨hS1, hS2⟩, hS3, hS4⟩ := hSw
    go_simp
    try with_reducible rfl
  try simp only [Act.put, List.setIfInBounds_toArray, List.set_cons_zero, List.set_cons_succ]
  refine wpAnyH_take (i := 3) (oi := ⟨_, _, _, _, _, _⟩) (v := ?_) rfl (by kernel_rfl) (by kernel_rfl) (by kernel_rfl) (fun _ _ _ h => h) (Or.inl ⟨by rfl, ?_⟩) (by assumption) ?_
  rotate_left 1
  · intro W' hSw
    obtain ⟨⟨hS1, hS2⟩, hS3, hS4⟩ := hSw
    go_simp
    try with_reducible rfl
  try simp only [Act.put, List.setIfInBounds_toArray, List.set_cons_zero, List.set_cons_succ]
  refine wpAnyH_take (i := 4) (oi := ⟨_, _, _, _, _, _⟩) (v := ?_) rfl (by kernel_rfl) (by kernel_rfl) (by kernel_rfl) (fun _ _ _ h => h) (Or.inl ⟨by rfl, ?_⟩) (by assumption) ?_
  rotate_left 1
  · intro W' hSw
    obtain ⟨⟨hS1, hS2⟩, hS3, hS4⟩ := hSw
    go_simp
    try with_reducible rfl
  try simp only [Act.put, List.setIfInBounds_toArray, List.set_cons_zero, List.set_cons_succ]
  refine wpAnyH_take (i := 5) (oi := ⟨_, _, _, _, _, _⟩) (v := ?_) rfl (by kernel_rfl) (by kernel_rfl) (by kernel_rfl) (fun _ _ _ h => h) (Or.inl ⟨by rfl, ?_⟩) (by assumption) ?_
  rotate_left 1
  · intro W' hSw
    obtain ⟨⟨hS1, hS2⟩, hS3, hS4⟩ := hSw
    go_simp
    try with_reducible rfl
  try simp only [Act.put, List.setIfInBounds_toArray, List.set_cons_zero, List.set_cons_succ]
  refine wpAnyH_take (i := 6) (oi := ⟨_, _, _, _, _, _⟩) (v := ?_) rfl (by kernel_rfl) (by kernel_rfl) (by kernel_rfl) (fun _ _ _ h => h) (Or.inl ⟨by rfl, ?_⟩) (by assumption) ?_
  rotate_left 1
  · intro W' hSw
    obtain ⟨⟨hS1, hS2⟩, hS3, hS4⟩ := hSw
    go_simp
    try with_reducible rfl
  try simp only [Act.put, List.setIfInBounds_toArray, List.set_cons_zero, List.set_cons_succ]
  refine wpAnyH_take (i := 7) (oi := ⟨_, _, _, _, _, _⟩) (v := ?_) rfl (by kernel_rfl) (by kernel_rfl) (by kernel_rfl) (fun _ _ _ h => h) (Or.inl ⟨by rfl, ?_⟩) (by assumption) ?_
  rotate_left 1
  · intro W' hSw
    obtain ⟨⟨hS1, hS2⟩, hS3, hS4⟩ := hSw
    go_simp
    try with_reducible rfl
  try simp only [Act.put, List.setIfInBounds_toArray, List.set_cons_zero, List.set_cons_succ]
  refine wpAnyH_take (i := 8) (oi := ⟨_, _, _, _, _, _⟩) (v := ?_) rfl (by kernel_rfl) (by kernel_rfl) (by kernel_rfl) (fun _ _ _ h => h) (Or.inl ⟨by rfl, ?_⟩) (by assumption) ?_
  rotate_left 1
  · intro W' hSw
    obtain ⟨⟨hS1, hS2⟩, hS3, hS4⟩ := hSw
    go_simp
    try with_reducible rfl
  try simp only [Act.put, List.setIfInBounds_toArray, List.set_cons_zero, List.set_cons_succ]
  refine wpAnyH_take (i := 9) (oi := ⟨_, _, _, _, _, _⟩) (v := ?_) rfl (by kernel_rfl) (by kernel_rfl) (by kernel_rfl) (fun _ _ _ h => h) (Or.inl ⟨by rfl, ?_⟩) (by assumption) ?_
  rotate_left 1
  · intro W' hSw
    obtain ⟨⟨hS1, hS2⟩, hS3, hS4⟩ := hSw
    go_simp
    try with_reducible rfl
  try simp only [Act.put, List.setIfInBounds_toArray, List.set_cons_zero, List.set_cons_succ]
  refine wpAnyH_take (i := 10) (oi := ⟨_, _, _, _, _, _⟩) (v := ?_) rfl (by kernel_rfl) (by kernel_rfl) (by kernel_rfl) (fun _ _ _ h => h) (Or.inl ⟨by rfl, ?_⟩) (by assumption) ?_
  rotate_left 1
  · intro W' hSw
    obtain ⟨⟨hS1, hS2⟩, hS3, hS4⟩ := hSw
    go_simp
    try with_reducible rfl
  try simp only [Act.put, List.setIfInBounds_toArray, List.set_cons_zero, List.set_cons_succ]
  refine wpAnyH_take (i := 11) (oi := ⟨_, _, _, _, _, _⟩) (v := ?_) rfl (by kernel_rfl) (by kernel_rfl) (by kernel_rfl) (fun _ _ _ h => h) (Or.inl ⟨by rfl, ?_⟩) (by assumption) ?_
  rotate_left 1
  · intro W' hSw
    obtain ⟨⟨hS1, hS2⟩, hS3, hS4⟩ := hSw
    go_simp
    try with_reducible rfl
  try simp only [Act.put, List.setIfInBounds_toArray, List.set_cons_zero, List.set_cons_succ]
  refine wpAnyH_take (i := 12) (oi := ⟨_, _, _, _, _, _⟩) (v := ?_) rfl (by kernel_rfl) (by kernel_rfl) (by kernel_rfl) (fun _ _ _ h => h) (Or.inl ⟨by rfl, ?_⟩) (by assumption) ?_
  rotate_left 1
  · intro W' hSw
    obtain ⟨⟨hS1, hS2⟩, hS3, hS4⟩ := hSw
    go_simp
    try with_reducible rfl
  try simp only [Act.put, List.setIfInBounds_toArray, List.set_cons_zero, List.set_cons_succ]
  refine wpAnyH_take (i := 13) (oi := ⟨_, _, _, _, _, _⟩) (v := ?_) rfl (by kernel_rfl) (by kernel_rfl) (by kernel_rfl) (fun _ _ _ h => h) (Or.inl ⟨by rfl, ?_⟩) (by assumption) ?_
  rotate_left 1
  · intro W' hSw
    obtain ⟨⟨hS1, hS2⟩, hS3, hS4⟩ := hSw
    go_simp
    try with_reducible rfl
  try simp only [Act.put, List.setIfInBounds_toArray, List.set_cons_zero, List.set_cons_succ]
  refine wpAnyH_take (i := 14) (oi := ⟨_, _, _, _, _, _⟩) (v := ?_) rfl (by kernel_rfl) (by kernel_rfl) (by kernel_rfl) (fun _ _ _ h => h) (Or.inl ⟨by rfl, ?_⟩) (by assumption) ?_
  rotate_left 1
  · intro W' hSw
    obtain ⟨⟨hS1, hS2⟩, hS3, hS4⟩ := hSw
    go_simp
    try with_reducible rfl
  try simp only [Act.put, List.setIfInBounds_toArray, List.set_cons_zero, List.set_cons_succ]
  refine wpAnyH_take (i := 15) (oi := ⟨_, _, _, _, _, _⟩) (v := ?_) rfl (by kernel_rfl) (by kernel_rfl) (by kernel_rfl) (fun _ _ _ h => h) (Or.inl ⟨by rfl, ?_⟩) (by assumption) ?_
  rotate_left 1
  · intro W' hSw
    obtain ⟨⟨hS1, hS2⟩, hS3, hS4⟩ := hSw
    go_simp
    try with_reducible rfl
  try simp only [Act.put, List.setIfInBounds_toArray, List.set_cons_zero, List.set_cons_succ]
  refine wpAnyH_take (i := 16) (oi := ⟨_, _, _, _, _, _⟩) (v := ?_) rfl (by kernel_rfl) (by kernel_rfl) (by kernel_rfl) (fun _ _ _ h => h) (Or.inl ⟨by rfl, ?_⟩) (by assumption) ?_
  rotate_left 1
  · intro W' hSw
    obtain ⟨⟨hS1, hS2⟩, hS3, hS4⟩ := hSw
    go_simp
    try with_reducible rfl
  try simp only [Act.put, List.setIfInBounds_toArray, List.set_cons_zero, List.set_cons_succ]
  refine wpAnyH_take (i := 17) (oi := ⟨_, _, _, _, _, _⟩) (v := ?_) rfl (by kernel_rfl) (by kernel_rfl) (by kernel_rfl) (fun _ _ _ h => h) (Or.inl ⟨by rfl, ?_⟩) (by assumption) ?_
  rotate_left 1
  · intro W' hSw
    obtain ⟨⟨hS1, hS2⟩, hS3, hS4⟩ := hSw
    go_simp
    try with_reducible rfl
  try simp only [Act.put, List.setIfInBounds_toArray, List.set_cons_zero, List.set_cons_succ]
  refine wpAnyH_ready (rs := [18]) (by kernel_rfl) (by simp) ?_
  refine AllReadyH.cons (o := ⟨_, _, _, _, _, _⟩) rfl (fun K' hK => ?_) AllReadyH.nil
  go_simp
  refine hnm.mono ?_
  rintro en V8 ⟨na, nc, rfl, hO8⟩
  dsimp only
  have hx78 : V7.Extends V8 := (extd V7).trans hO8.2.1
  have hb8 : blk V8 b8 = some (Reply.enc R0) := (hx78.blk (blk_lt HB8.out.1)).trans HB8.out.1
  have hf8 : free V8 b8 = true := (free_of_heap (hx78.block b8 (blk_lt HB8.out.1))).trans HB8.out.2.1
  refine hK.out _ _ (HSX.out _ hx78) (fun hHeld => ?_)
  clear hK K'
  try simp only [Act.put, List.setIfInBounds_toArray, List.set_cons_zero, List.set_cons_succ]
  refine wpAnyH_take (i := 19) (oi := ⟨_, _, _, _, _, _⟩) (v := ?_) rfl (by kernel_rfl) (by kernel_rfl) (by kernel_rfl) (fun _ _ _ h => h) (Or.inl ⟨by rfl, ?_⟩) (by assumption) ?_
  rotate_left 1
  · intro W' hSw
    obtain ⟨⟨hS1, hS2⟩, hS3, hS4⟩ := hSw
    go_simp
    try with_reducible rfl
  try simp only [Act.put, List.setIfInBounds_toArray, List.set_cons_zero, List.set_cons_succ]
  refine wpAnyH_take (i := 20) (oi := ⟨_, _, _, _, _, _⟩) (v := ?_) rfl (by kernel_rfl) (by kernel_rfl) (by kernel_rfl) (fun _ _ _ h => h) (Or.inl ⟨by rfl, ?_⟩) (by assumption) ?_
  rotate_left 1
  · intro W' hSw
    obtain ⟨⟨hS1, hS2⟩, hS3, hS4⟩ := hSw
    go_simp
    try with_reducible rfl
  try simp only [Act.put, List.setIfInBounds_toArray, List.set_cons_zero, List.set_cons_succ]
  have HO8 := hid_of hO8
  have HX78 := hid_of hx78
  have hSP : ∀ C, (blk (put V8 b8 C) bs = some CS2 ∧ blk (put V8 b8 C) bi = some CI) ∧ blk (put V8 b8 C) bd = some Cd ∧ blk (put V8 b8 C) b6 = some (arr i64v ct) := fun C => by
    obtain ⟨⟨q1, q2⟩, q3, q4⟩ := HSX.out _ hx78
    exact ⟨⟨by rw [blk_put, if_neg (Ne.symm n8s)]; exact q1, by rw [blk_put, if_neg (Ne.symm n8i)]; exact q2⟩, by rw [blk_put, if_neg (Ne.symm n8d)]; exact q3, by rw [blk_put, if_neg (Ne.symm n86)]; exact q4⟩
  obtain ⟨R1, hR1⟩ : ∃ R1 : Reply, R1 = ⟨R0.code, R0.kind, R0.index, R0.yes, R0.preds, R0.rules, R0.arity, R0.rows, ⟨false, (pr : Int), ⟨na, ar, nc⟩⟩⟩ := ⟨_, rfl⟩
  have rf8 : splice (Reply.enc R0) 8 (Item.enc ⟨false, (pr : Int), ⟨na, ar, nc⟩⟩) = Reply.enc R1 := by rw [hR1]; exact Reply.fact_set R0 _
  have rl8 : (Reply.enc R0).length = 11 := Reply.length_enc R0
  have HR1 := hid_of hR1
  clear hO8 hx78 hR1
  refine wpAnyH_ready (rs := [21]) (by kernel_rfl) (by simp) ?_
  refine AllReadyH.cons (o := ⟨_, _, _, _, _, _⟩) rfl (fun K' hK => ?_) AllReadyH.nil
  go_simp
  refine hK.out _ _ (hSP _) (fun hHeld => ?_)
  clear hK K'
  try simp only [Act.put, List.setIfInBounds_toArray, List.set_cons_zero, List.set_cons_succ]
  refine wpAnyH_done (by kernel_rfl) ?_ _
  have hb4 : blk V8 b4 = some Reply.zero.enc := ((HX7.out.trans HX78.out).blk (blk_lt HH5.out.rc)).trans HH5.out.rc
  have hf4 : free V8 b4 = true := (free_of_heap ((HX7.out.trans HX78.out).block b4 (blk_lt HH5.out.rc))).trans HH5.out.rf
  have HP : Hid (Q (.returned (.agg (Reply.enc R1).toArray)) (put (put V8 b8 (Reply.enc R1)) b4 (Reply.enc R1))) := by
    show Q _ _
    rw [HQ.out]
    have hx9 : V5.Extends (put V8 b8 (Reply.enc R1)) := extends_put (HX7.out.trans HX78.out) HB8.out.2.2 _
    refine (HH5.out.grow hx9 .no).finG HLOW.out (q := ⟨0, 7, -1, false, 0, 0, 0, [], (pr : Int), nmsT t.N ct (arP t.p pr)⟩) ⟨HQE.out.symm, rfl⟩ ?_
    rw [HR1.out, HR0.out]
    refine ⟨rfl, rfl, rfl, rfl, rfl, rfl, rfl, RowsC.nil _, rfl, ?_⟩
    rw [← HAR.out]
    refine (OutG.nw el50 HO8.out).sub (fun b C hb => ?_)
    obtain ⟨h1, h2⟩ := newc_blk hb
    have h3 : V7.heap.size ≤ b := h2
    have h4 := blk_lt HB8.out.1
    have h5 := HX7.out.size
    have h6 := blk_lt HH5.out.rc
    refine blk_core ?_ (n6_no (lab_ge (by omega)))
    rw [blk_put, if_neg (by omega), blk_put, if_neg (by omega)]
    exact h1
  have r1l := Reply.length_enc R1
  have r1o := Reply.ok_enc R1
  have r1a : seg (Reply.enc R1) 0 11 = Reply.enc R1 := seg_all _ _ r1l
  have r1s := Reply.all_set Reply.zero R1
  have hb8' : blk (put V8 b8 (Reply.enc R1)) b8 = some (Reply.enc R1) := by rw [blk_put, if_pos rfl, hb8]; rfl
  have n48 : ¬ b4 = b8 := fun e => n84 e.symm
  go_wp2_with fail
  refine ret_cell (C := Reply.enc R1) rfl rfl ?_ (by kernel_rfl) (by rw [r1l]; kernel_rfl) rfl HP.out
  first | (rw [blk_put, if_pos rfl, blk_put, if_neg n48, hb4]; rfl) | (simp only [blk_put, if_true, hb4, Option.map_some]; try rfl)
end Go.Proofs.Qxb6500787aGreat
