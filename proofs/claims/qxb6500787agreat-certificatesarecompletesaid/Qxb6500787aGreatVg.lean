
import Derived.Test.Qxb6500787aGreatVf
import Derived.StillTailTactics
import Derived.Deep.QuietTactic
import Derived.BigQuiet
import Derived.Deep.RegionHeld
import Derived.Deep.CutRange
import Derived.Laws.ResultCell
import Derived.Laws.Rows
import Derived.DeepKeys
import Derived.DataBytes
import Derived.Laws.StructEq
import Derived.Laws.AppendOwn
import Derived.Laws.MakeOwn
import Derived.Lib.AppendStr
set_option linter.unusedSimpArgs false
set_option linter.unusedVariables false
namespace Go.Proofs.Qxb6500787aGreat
open Go.RowKit Go.Blk
attribute [local go_sem ↓] execOp_load execOp_store execOp_alloc
attribute [local go_sem] Tryz.ld26 Tryz.st26 Tryz.ld27 Tryz.st27 Tryz.ld28 Tryz.st28 Tryz.ld3 Tryz.st3 Tryz.ld29 Tryz.st29 Tryz.ld44 Tryz.st44 Tryz.ld4 Tryz.st4 Tryz.ld50 Tryz.st50 Tryz.ld32 Tryz.st32 Tryz.ld49 Tryz.st49 Tryz.ld68 Tryz.st68 Tryz.ld9 Tryz.st9 Tryz.ld40 Tryz.st40 Tryz.ld138 Tryz.st138 Tryz.ld139 Tryz.st139 Tryz.ld146 Tryz.st146 Tryz.ld183 Tryz.st183 Tryz.ld184 Tryz.st184 Tryz.ld192 Tryz.st192 Tryz.ld195 Tryz.st195 Tryz.ld217 Tryz.st217 Tryz.ld159 Tryz.st159 Tryz.ld142 Tryz.st142 Tryz.ld2 Tryz.st2 Tryz.ld5 Tryz.st5 Tryz.ld12 Tryz.st12 Tryz.ld21 Tryz.st21 Tryz.ld22 Tryz.st22 Tryz.ld24 Tryz.st24 Tryz.ld58 Tryz.st58 Tryz.ld97 Tryz.st97 Tryz.ld101 Tryz.st101 Tryz.ld116 Tryz.st116 Tryz.ld121 Tryz.st121 Tryz.ld135 Tryz.st135 Tryz.ld136 Tryz.st136 Tryz.ld143 Tryz.st143 Tryz.ld148 Tryz.st148 Tryz.ld154 Tryz.st154 Tryz.ld173 Tryz.st173 Tryz.ld187 Tryz.st187 Tryz.ld222 Tryz.st222 Tryz.ld241 Tryz.st241 Tryz.ld248 Tryz.st248 Tryz.ld268 Tryz.st268 Tryz.ld272 Tryz.st272 Tryz.ld153 Tryz.st153 Tryz.ld255 Tryz.st255 Tryz.ld256 Tryz.st256 Tryz.ld129 Tryz.st129 Tryz.ld152 Tryz.st152 Tryz.ld31 Tryz.st31 Tryz.ld46 Tryz.st46 Tryz.ld52 Tryz.st52 Tryz.ld54 Tryz.st54 Tryz.ld60 Tryz.st60 Tryz.ld70 Tryz.st70 Tryz.ld74 Tryz.st74 Tryz.ld93 Tryz.st93 Tryz.ld141 Tryz.st141 Tryz.ld151 Tryz.st151 Tryz.ld170 Tryz.st170 Tryz.ld186 Tryz.st186 Tryz.ld189 Tryz.st189 Tryz.ld194 Tryz.st194 Tryz.ld197 Tryz.st197 Tryz.ld219 Tryz.st219 Tryz.ld224 Tryz.st224 Tryz.ld230 Tryz.st230 Tryz.ld235 Tryz.st235 Tryz.ld243 Tryz.st243 Tryz.ld247 Tryz.st247 Tryz.ld252 Tryz.st252 Tryz.ld258 Tryz.st258 Tryz.al153 Tryz.al255 Tryz.al256 Tryz.al129 Tryz.al152 Tryz.al31 Tryz.al46 Tryz.al52 Tryz.al54 Tryz.al60 Tryz.al70 Tryz.al74 Tryz.al93 Tryz.al141 Tryz.al151 Tryz.al170 Tryz.al186 Tryz.al189 Tryz.al194 Tryz.al197 Tryz.al219 Tryz.al224 Tryz.al230 Tryz.al235 Tryz.al243 Tryz.al247 Tryz.al252 Tryz.al258
attribute [local go_sem] Request.length_enc Request.ok_enc Request.all_get Request.all_set Request.kind_get Request.kind_set Request.blob_get Request.blob_set Request.items_get Request.items_set Request.pred_get Request.pred_set Request.slots_get Request.slots_set Trace.length_enc Trace.ok_enc Trace.all_get Trace.all_set Trace.op_get Trace.op_set Trace.calls_get Trace.calls_set Item.length_enc Item.ok_enc Item.all_get Item.all_set Item.del_get Item.del_set Item.pred_get Item.pred_set Item.args_get Item.args_set Reply.length_enc Reply.ok_enc Reply.all_get Reply.all_set Reply.code_get Reply.code_set Reply.kind_get Reply.kind_set Reply.index_get Reply.index_set Reply.yes_get Reply.yes_set Reply.preds_get Reply.preds_set Reply.rules_get Reply.rules_set Reply.arity_get Reply.arity_set Reply.rows_get Reply.rows_set Reply.fact_get Reply.fact_set Reply.fact_del_get Reply.fact_del_set Reply.fact_pred_get Reply.fact_pred_set Reply.fact_args_get Reply.fact_args_set GEntry.length_enc GEntry.ok_enc GEntry.all_get GEntry.all_set GEntry.seq_get GEntry.seq_set GEntry.kind_get GEntry.kind_set GEntry.code_get GEntry.code_set GOp.length_enc GOp.ok_enc GOp.all_get GOp.all_set GOp.kind_get GOp.kind_set GOp.raw_get GOp.raw_set Reader.length_enc Reader.ok_enc Reader.all_get Reader.all_set Reader.buf_get Reader.buf_set Reader.at__get Reader.at__set Slot.length_enc Slot.ok_enc Slot.all_get Slot.all_set Slot.bound_get Slot.bound_set Slot.name_get Slot.name_set Session.length_enc Session.ok_enc Session.all_get Session.all_set Session.svc_get Session.svc_set Session.buf_get Session.buf_set Session.closed_get Session.closed_set GProgram.length_enc GProgram.ok_enc GProgram.all_get GProgram.all_set GProgram.pool_get GProgram.pool_set GProgram.preds_get GProgram.preds_set GProgram.rules_get GProgram.rules_set GProgram.strata_get GProgram.strata_set PredInfo.length_enc PredInfo.ok_enc PredInfo.all_get PredInfo.all_set PredInfo.arity_get PredInfo.arity_set PredInfo.base_get PredInfo.base_set PredInfo.stratum_get PredInfo.stratum_set Change.length_enc Change.ok_enc Change.all_get Change.all_set Change.del_get Change.del_set Change.pred_get Change.pred_set Change.t_get Change.t_set Store.length_enc Store.ok_enc Store.all_get Store.all_set Store.names_get Store.names_set Store.arity_get Store.arity_set Store.rows_get Store.rows_set Src.length_enc Src.ok_enc Src.all_get Src.all_set Src.b_get Src.b_set Src.at__get Src.at__set Atom.length_enc Atom.ok_enc Atom.all_get Atom.all_set Atom.pred_get Atom.pred_set Atom.args_get Atom.args_set GRule.length_enc GRule.ok_enc GRule.all_get GRule.all_set GRule.head_get GRule.head_set GRule.body_get GRule.body_set GRule.head_pred_get GRule.head_pred_set GRule.head_args_get GRule.head_args_set Cert.length_enc Cert.ok_enc Cert.all_get Cert.all_set Cert.names_get Cert.names_set Cert.nodes_get Cert.nodes_set Fact.length_enc Fact.ok_enc Fact.all_get Fact.all_set Fact.pred_get Fact.pred_set Fact.t_get Fact.t_set Literal.length_enc Literal.ok_enc Literal.all_get Literal.all_set Literal.neg_get Literal.neg_set Literal.atom_get Literal.atom_set Literal.atom_pred_get Literal.atom_pred_set Literal.atom_args_get Literal.atom_args_set Engine.length_enc Engine.ok_enc Engine.all_get Engine.all_set Engine.prog_get Engine.prog_set Engine.st_get Engine.st_set SrcCertm.length_enc SrcCertm.ok_enc SrcCertm.all_get SrcCertm.all_set SrcCertm.b_get SrcCertm.b_set SrcCertm.at__get SrcCertm.at__set GNode.length_enc GNode.ok_enc GNode.all_get GNode.all_set GNode.rule_get GNode.rule_set GNode.pred_get GNode.pred_set GNode.vals_get GNode.vals_set GNode.refs_get GNode.refs_set Term.length_enc Term.ok_enc Term.all_get Term.all_set Term.var_get Term.var_set Term.n_get Term.n_set Env.length_enc Env.ok_enc Env.all_get Env.all_set Env.val_get Env.val_set Env.set_get Env.set_set
attribute [local go_sem] size_put size_ext blk_put free_put blk_alloc free_alloc blk_drew free_drew blk_ext free_ext lookOr_some putOr_some segAt_some cellAt_some storeIn_some put_put put_alloc_new length_arr ok_arr_u8 ok_arr_u32 ok_arr_u64 ok_arr_i64 ok_arr_sl cellsV_agg cellsV_int cellsV_bool cellsV_string cellsV_pointer cellsV_slice cellsV_sl ok_int ok_bool ok_string ok_pointer ok_slice ok_sl toList_arr seg_arr set_arr nth_splice nth_splice0 seg_splice seg_splice0 splice_splice splice_splice0 length_splice_if
attribute [local go_sem ↓] execOp_box
attribute [local go_sem] box_run nth_arr_u8 put_arr_u8 blk_drewN free_drewN put_drewN blk_raw free_raw
theorem SvM.frF {O O' : Own} {W V : World} {bs g : Nat} {s : Sv} {CS : List Value} {ip ia : Option Addr} {iN ic : Nat} (h : SvM O W bs g s CS ip ia iN ic) (hF : Fr (fun _ => False) O W O' V) : SvM O' V bs g s CS ip ia iN ic := by
  refine ⟨hF.blk h.cell (fun e => e), hF.free h.cell h.fre (fun e => e), (hF.keep bs (blk_lt h.cell)).trans h.own, h.c, h.im.grow (core_fr hF (fun e => e)), h.gl, h.no, fun t ht => ?_⟩
  obtain ⟨B, bi, e1, e2, e3⟩ := h.ins t ht
  exact ⟨B, bi, e1, Nat.le_trans e2 hF.size, e3.fr hF (fun _ _ e => e) (fun e => e)⟩
theorem SvM.norm {O : Own} {W : World} {bs g : Nat} {s : Sv} {CS : List Value} {ip ia : Option Addr} {iN ic : Nat} (h : SvM O W bs g s CS ip ia iN ic) : SvM (Go.Proofs.Qxb6500787aGreat.norm g O) W bs g s CS ip ia iN ic := by
  refine ⟨h.cell, h.fre, norm_0 h.own, h.c, h.im.sub (Sub.cores fun b C hb ho => ⟨hb, norm_no ho⟩), h.gl, h.no, fun t ht => ?_⟩
  obtain ⟨B, bi, e1, e2, e3⟩ := h.ins t ht
  exact ⟨B, bi, e1, e2, e3.relab (fun k l hk hl => norm_I hk hl) (fun k hk => norm_no hk)⟩
/-- A handler is through. -/
theorem hd_fin {O O' : Own} {W V : World} {bs g : Nat} {r : Reply × Sv} {CS : List Value} {ip ia : Option Addr} {iN ic : Nat} (hK : Kp O W O' V) (h : SvM O' V bs g r.2 CS ip ia iN ic) : HdPost O W bs r (.returned (.agg (Reply.enc r.1).toArray)) V := by
  have hg := h.gl
  refine ⟨rfl, Go.Proofs.Qxb6500787aGreat.norm g O', g, hK.norm g, ⟨CS, ip, ia, iN, ic, h.norm⟩, fun k => ?_⟩
  exact norm_free hg (by omega) (by omega) O' k
/-- A written scratch block. -/
theorem frS_put {O O' : Own} {W V : World} (h : Fr (fun _ => False) O W O' V) {b : Nat} (hb : W.heap.size ≤ b) (C : List Value) : Fr (fun _ => False) O W O' (put V b C) := h.put_new hb C
set_option maxRecDepth 100000 in
theorem frame45q (f : Nat → Value) : frameN 45 f = #[f 0, f 1, f 2, f 3, f 4, f 5, f 6, f 7, f 8, f 9, f 10, f 11, f 12, f 13, f 14, f 15, f 16, f 17, f 18, f 19, f 20, f 21, f 22, f 23, f 24, f 25, f 26, f 27, f 28, f 29, f 30, f 31, f 32, f 33, f 34, f 35, f 36, f 37, f 38, f 39, f 40, f 41, f 42, f 43, f 44] := by kernel_rfl
set_option maxRecDepth 40000 in
set_option maxHeartbeats 4000000 in
theorem query_any {O : Own} {W : World} {bs g : Nat} {s : Sv} {CS : List Value} {ip ia : Option Addr} {iN ic : Nat} (h : SvM O W bs g s CS ip ia iN ic) {t : InsS} (ht : s.inst = some t) (hok : InOk t) (hcl : 0 ≤ s.calls ∧ s.calls ≤ 100) (dl : Bool) (pr n : Nat) (aa : Option Addr) (ac : Nat) (args : List (List UInt8)) (hA : Rw encS 1 (core O W) aa n args) (hn : n ≤ 4) : Calls Tryz.prog 103 #[.pointer (some ⟨bs, 0, none⟩), .agg (itemE dl (pr : Int) aa n ac).toArray] W (HdPost O W bs (qyF s t pr args)) := by
  obtain ⟨Q, hQ⟩ : ∃ Q, Q = HdPost O W bs (qyF s t pr args) := ⟨_, rfl⟩
  rw [← hQ]
  have HQ := hid_of hQ
  have HM := hid_of h
  have HT := hid_of ht
  have HOK := hid_of hok
  have HA := hid_of hA
  obtain ⟨B, bi, rfl, hB, hI⟩ := h.ins t ht
  have HI := hid_of hI
  have hal : args.length = n := hA.1
  have HAL := hid_of hal
  have c0 := h.c.c0
  have l0 : 0 < CS.length := by rw [h.c.len]; omega
  obtain ⟨IE, hIE⟩ : ∃ IE, IE = itemE dl (pr : Int) aa n ac := ⟨_, rfl⟩
  have i1 : nth IE 1 = some (.int .i64 (pr : Int)) := by rw [hIE]; rfl
  have i2 : nth IE 2 = some (.slice aa n ac) := by rw [hIE]; rfl
  have il : IE.length = 3 := by rw [hIE]; rfl
  rw [← hIE]
  have HIL := hid_of il
  have il1 : 1 < IE.length := by omega
  have il2 : 2 < IE.length := by omega
  clear hQ h ht hok hA hB hI hal hIE il
  go_enter Tryz.func103, Tryz.ntmps103
  go_upto_region 1 with fail
  refine wp_world (fun V => W.Extends V ∧ blk V W.heap.size = some IE ∧ blk V (W.heap.size + 1) = some Reply.zero.enc ∧ free V (W.heap.size + 1) = true ∧ V.heap.size = W.heap.size + 2) ⟨extends_alloc (extends_alloc (ext_Ext (Ext.refl _)) _) _, ?_, ?_, ?_, ?_⟩ ?_
  · rw [blk_alloc, if_neg (by rw [World.size_alloc]; omega), blk_alloc, if_pos rfl]
  · rw [blk_alloc, if_pos (by rw [World.size_alloc])]; try rfl
  · rw [free_alloc, if_pos (by rw [World.size_alloc])]
  · rw [World.size_alloc, World.size_alloc]
  rintro W1 ⟨hx1, hb3, hb4, hf4, hsz1⟩
  try simp only [World.size_alloc]
  obtain ⟨O1, hO1⟩ : ∃ O1, O1 = lab O W.heap.size (.a 0 9) := ⟨_, rfl⟩
  have hF1 : Fr (fun _ => False) O W O1 W1 := by rw [hO1]; exact ⟨hx1.os, hx1.tape, hx1.output, hx1.size, fun k hk => lab_lt hk, fun k hk _ => hx1.block k hk⟩
  obtain ⟨b4, e4⟩ : ∃ b4, b4 = W.heap.size + 1 := ⟨_, rfl⟩
  obtain ⟨b3, e3⟩ : ∃ b3, b3 = W.heap.size := ⟨_, rfl⟩
  rw [← e4] at hb4 hf4 ⊢
  rw [← e3] at hb3 ⊢
  have ho4 : O1 b4 = .a 0 9 := by rw [hO1, e4]; exact lab_ge (by omega)
  have hw4 : W.heap.size ≤ b4 := by omega
  have hM1 := HM.out.frF hF1
  have hbs1 := hM1.cell
  have hpc : ProgC W1 bi t.p := by
    obtain ⟨CI, bst, be, A, hm⟩ := HI.out.ext hx1
    exact ProgL.c hm.progL
  have hcr := checkRead_any (W := W1.drew) (hpc.ext (extd W1)) pr n
  obtain ⟨cd, hcd⟩ : ∃ cd, cd = crF t.p pr n := ⟨_, rfl⟩
  rw [← hcd] at hcr
  have HCD := hid_of hcd
  have HF1 := hid_of hF1
  have HM1 := hid_of hM1
  have HO4 := hid_of ho4
  have HB34 : Hid (∀ V, W1.Extends V → blk V b3 = some IE ∧ blk V b4 = some Reply.zero.enc ∧ free V b4 = true ∧ blk V bs = some CS) := fun V hx => ⟨(hx.blk (blk_lt hb3)).trans hb3, (hx.blk (blk_lt hb4)).trans hb4, (free_of_heap (hx.block b4 (blk_lt hb4))).trans hf4, (hx.blk (blk_lt hbs1)).trans hbs1⟩
  have hS1 : blk W1.drew bs = some CS ∧ blk W1.drew b3 = some IE := ⟨hbs1, hb3⟩
  clear hx1 hsz1 hO1 hF1 e4 e3 ho4 hM1 hpc hcd
  refine wp_region_held_drew (S := fun W' => blk W' bs = some CS ∧ blk W' b3 = some IE) (by kernel_rfl) hS1 (fun hHeld => ?_)
  refine wpAnyH_take (i := 0) (oi := ⟨_, _, _, _, _, _⟩) (v := ?_) rfl (by kernel_rfl) (by kernel_rfl) (by kernel_rfl) (fun _ _ _ h => h) (Or.inl ⟨by rfl, ?_⟩) (by assumption) ?_
  rotate_left 1
  · intro W' hSw
    obtain ⟨hS1, hS2⟩ := hSw
    go_simp
    try with_reducible rfl
  try simp only [Act.put, List.setIfInBounds_toArray, List.set_cons_zero, List.set_cons_succ]
  refine wpAnyH_take (i := 1) (oi := ⟨_, _, _, _, _, _⟩) (v := ?_) rfl (by kernel_rfl) (by kernel_rfl) (by kernel_rfl) (fun _ _ _ h => h) (Or.inl ⟨by rfl, ?_⟩) (by assumption) ?_
  rotate_left 1
  · intro W' hSw
    obtain ⟨hS1, hS2⟩ := hSw
    go_simp
    try with_reducible rfl
  try simp only [Act.put, List.setIfInBounds_toArray, List.set_cons_zero, List.set_cons_succ]
  refine wpAnyH_take (i := 2) (oi := ⟨_, _, _, _, _, _⟩) (v := ?_) rfl (by kernel_rfl) (by kernel_rfl) (by kernel_rfl) (fun _ _ _ h => h) (Or.inl ⟨by rfl, ?_⟩) (by assumption) ?_
  rotate_left 1
  · intro W' hSw
    obtain ⟨hS1, hS2⟩ := hSw
    go_simp
    try with_reducible rfl
  try simp only [Act.put, List.setIfInBounds_toArray, List.set_cons_zero, List.set_cons_succ]
  refine wpAnyH_take (i := 3) (oi := ⟨_, _, _, _, _, _⟩) (v := ?_) rfl (by kernel_rfl) (by kernel_rfl) (by kernel_rfl) (fun _ _ _ h => h) (Or.inl ⟨by rfl, ?_⟩) (by assumption) ?_
  rotate_left 1
  · intro W' hSw
    obtain ⟨hS1, hS2⟩ := hSw
    go_simp
    try with_reducible rfl
  try simp only [Act.put, List.setIfInBounds_toArray, List.set_cons_zero, List.set_cons_succ]
  refine wpAnyH_take (i := 4) (oi := ⟨_, _, _, _, _, _⟩) (v := ?_) rfl (by kernel_rfl) (by kernel_rfl) (by kernel_rfl) (fun _ _ _ h => h) (Or.inl ⟨by rfl, ?_⟩) (by assumption) ?_
  rotate_left 1
  · intro W' hSw
    obtain ⟨hS1, hS2⟩ := hSw
    go_simp
    try with_reducible rfl
  try simp only [Act.put, List.setIfInBounds_toArray, List.set_cons_zero, List.set_cons_succ]
  refine wpAnyH_take (i := 5) (oi := ⟨_, _, _, _, _, _⟩) (v := ?_) rfl (by kernel_rfl) (by kernel_rfl) (by kernel_rfl) (fun _ _ _ h => h) (Or.inl ⟨by rfl, ?_⟩) (by assumption) ?_
  rotate_left 1
  · intro W' hSw
    obtain ⟨hS1, hS2⟩ := hSw
    go_simp
    try with_reducible rfl
  try simp only [Act.put, List.setIfInBounds_toArray, List.set_cons_zero, List.set_cons_succ]
  refine wpAnyH_take (i := 6) (oi := ⟨_, _, _, _, _, _⟩) (v := ?_) rfl (by kernel_rfl) (by kernel_rfl) (by kernel_rfl) (fun _ _ _ h => h) (Or.inl ⟨by rfl, ?_⟩) (by assumption) ?_
  rotate_left 1
  · intro W' hSw
    obtain ⟨hS1, hS2⟩ := hSw
    go_simp
    try with_reducible rfl
  try simp only [Act.put, List.setIfInBounds_toArray, List.set_cons_zero, List.set_cons_succ]
  refine wpAnyH_take (i := 7) (oi := ⟨_, _, _, _, _, _⟩) (v := ?_) rfl (by kernel_rfl) (by kernel_rfl) (by kernel_rfl) (fun _ _ _ h => h) (Or.inl ⟨by rfl, ?_⟩) (by assumption) ?_
  rotate_left 1
  · intro W' hSw
    obtain ⟨hS1, hS2⟩ := hSw
    go_simp
    try with_reducible rfl
  try simp only [Act.put, List.setIfInBounds_toArray, List.set_cons_zero, List.set_cons_succ]
  refine wpAnyH_take (i := 8) (oi := ⟨_, _, _, _, _, _⟩) (v := ?_) rfl (by kernel_rfl) (by kernel_rfl) (by kernel_rfl) (fun _ _ _ h => h) (Or.inl ⟨by rfl, ?_⟩) (by assumption) ?_
  rotate_left 1
  · intro W' hSw
    obtain ⟨hS1, hS2⟩ := hSw
    go_simp
    try with_reducible rfl
  try simp only [Act.put, List.setIfInBounds_toArray, List.set_cons_zero, List.set_cons_succ]
  refine wpAnyH_ready (rs := [9]) (by kernel_rfl) (by simp) ?_
  refine AllReadyH.cons (o := ⟨_, _, _, _, _, _⟩) rfl (fun K' hK => ?_) AllReadyH.nil
  go_simp
  refine hcr.mono ?_
  rintro en V7 ⟨rfl, e9⟩
  replace e9 := e9.symm
  subst e9
  dsimp only
  refine hK.out _ _ hS1 (fun hHeld => ?_)
  clear hK K'
  try simp only [Act.put, List.setIfInBounds_toArray, List.set_cons_zero, List.set_cons_succ]
  refine wpAnyH_take (i := 10) (oi := ⟨_, _, _, _, _, _⟩) (v := ?_) rfl (by kernel_rfl) (by kernel_rfl) (by kernel_rfl) (fun _ _ _ h => h) (Or.inl ⟨by rfl, ?_⟩) (by assumption) ?_
  rotate_left 1
  · intro W' hSw
    obtain ⟨hS1, hS2⟩ := hSw
    go_simp
    try with_reducible rfl
  try simp only [Act.put, List.setIfInBounds_toArray, List.set_cons_zero, List.set_cons_succ]
  refine wpAnyH_done (by kernel_rfl) ?_ _
  have HFIN : Hid (∀ (Ox : Own) (V : World) (rep : Reply) (s' : Sv) (CSx : List Value), Fr (fun l => l = .a 0 0) O W Ox V → SvM Ox V bs g s' CSx (some ⟨bi, 0, none⟩) ia iN ic → Ox b4 = .a 0 9 → qyF s t pr args = (rep, s') → Q (.returned (.agg (Reply.enc rep).toArray)) (put V b4 (Reply.enc rep))) := by
    intro Ox V rep s' CSx h1 h2 h3 h4
    rw [HQ.out, h4]
    have hK : Kp O W Ox (put V b4 (Reply.enc rep)) := Kp.fr (L := fun l => l = .a 0 0) (h1.put_new hw4 _) (fun l hl e => kept_0 hl e)
    exact hd_fin (r := (rep, s')) hK (h2.put_new h3 _)
  have HX : Hid (∀ V, W1.Extends V → ∃ Ox, Fr (fun _ => False) O W Ox V ∧ SvM Ox V bs g s CS (some ⟨bi, 0, none⟩) ia iN ic ∧ Ox b4 = .a 0 9) := fun V hx => by
    have hF := Fr.grow (L := fun _ => False) (O := O1) hx
    exact ⟨_, HF1.out.trans hF, HM1.out.frF hF, (hF.keep b4 (blk_lt hb4)).trans HO4.out⟩
  have HB4L := hid_of (blk_lt hb4)
  clear hcr hS1
  by_cases hc0 : cd = 0
  rotate_left 1
  · have hrf := refuse_any W1.drew 5 cd
    have hcb : (cd != 0) = true := by simp [hc0]
    have HRP : Hid (∀ V, W1.Extends V → Q (.returned (.agg (Reply.enc (repZ cd 5 (-1))).toArray)) (put V b4 (Reply.enc (repZ cd 5 (-1))))) := fun V hx => by
      obtain ⟨Ox, h1, h2, h3⟩ := HX.out V hx
      refine HFIN.out Ox V _ s CS (h1.mono (fun _ e => e.elim)) h2 h3 ?_
      unfold qyF
      rw [HAL.out, ← HCD.out, if_pos hc0]
    have rl := Reply.length_enc (repZ cd 5 (-1))
    have ro := Reply.ok_enc (repZ cd 5 (-1))
    have rs := Reply.all_set Reply.zero (repZ cd 5 (-1))
    obtain ⟨RE, hRE⟩ : ∃ RE, RE = Reply.enc (repZ cd 5 (-1)) := ⟨_, rfl⟩
    rw [← hRE] at hrf HRP rl ro rs
    clear hc0 hRE hb3 hb4 hf4 hbs1
    go_wp2_with fail
    refine hrf.mono ?_
    rintro e V2 ⟨rfl, hx2⟩
    obtain ⟨-, hb4, hf4, -⟩ := HB34.out V2 ((extd W1).trans hx2)
    have HP := hid_of (HRP.out V2 ((extd W1).trans hx2))
    clear hrf hx2 HRP
    dsimp only
    go_wp2_with fail
    refine ret_cell (C := RE) rfl rfl ?_ (by kernel_rfl) (by rw [rl]; kernel_rfl) rfl HP.out
    first | (rw [blk_put, if_pos rfl, hb4]; rfl) | (simp only [blk_put, if_true, hb4, Option.map_some]; try rfl)
  have hz : cd = 0 := hc0
  have HQY : Hid (qyF s t pr args = (qyR t pr args, ⟨s.inst, s.img, 5, s.calls + 1, s.rst⟩)) := by
    show _ = _
    unfold qyF
    rw [HAL.out, ← HCD.out, if_neg (fun e => e hz)]
  have hpr : pr < t.p.preds.length := by
    have h9 := HCD.out
    rw [hz] at h9
    unfold crF at h9
    by_cases e : t.p.preds.length ≤ pr
    · rw [if_pos e] at h9; cases h9
    · omega
  subst hz
  have HPR := hid_of hpr
  have HAr : Hid (∀ V, W.Extends V → Rw encS 1 V aa n args) := fun V hx => HA.out.uncore.ext' hx
  have HRS : Hid (∀ V, W1.Extends V → Calls Tryz.prog 136 #[.pointer (some ⟨bi, 0, none⟩), .slice aa n ac] V fun e V' => e = .returned (.agg (arr i64v (mkT (resV t.N args) args.length)).toArray) ∧ V.Extends V') := fun V hx => resolve_any (HI.out.ext (HF1.out.toExt.trans hx)) HOK.out.nl aa n ac args (HAr.out V (HF1.out.toExt.trans hx)) hn
  obtain ⟨TT, hTT⟩ : ∃ TT, TT = mkT (resV t.N args) args.length := ⟨_, rfl⟩
  rw [← hTT] at HRS
  have HTT := hid_of hTT
  obtain ⟨R4, hR4⟩ : ∃ R4 : Act → Act → World → Prop, R4 = fun a0 a' w' => ∃ (b6 : Nat) (f : Nat → Value), a' = ⟨frameN 45 f, []⟩ ∧ f 0 = .pointer (some ⟨bs, 0, none⟩) ∧ f 3 = .pointer (some ⟨b3, 0, none⟩) ∧ f 4 = .pointer (some ⟨b4, 0, none⟩) ∧ f 6 = .pointer (some ⟨b6, 0, none⟩) ∧ Hid (W1.Extends w' ∧ blk w' b6 = some (arr i64v TT)) := ⟨_, rfl⟩
  have HR4 := hid_of hR4
  clear hR4 hTT hpr
  go_upto_region 4 with fail
  refine wp_cutR R4 ?_ ?_
  · rw [HR4.out]
    clear HR4 HFIN HX HQY
    have HSS : Hid (∀ V, W1.Extends V → blk V bs = some CS ∧ blk V b3 = some IE) := fun V hx => ⟨(HB34.out V hx).2.2.2, (HB34.out V hx).1⟩
    have hxd : W1.Extends W1.drew.drew := extends_drew (extends_drew (ext_Ext (Ext.refl _)))
    have HXD := hid_of hxd
    have hSd := HSS.out _ hxd
    clear hxd
    refine wp_region_held_drew (S := fun W' => blk W' bs = some CS ∧ blk W' b3 = some IE) (by kernel_rfl) hSd (fun hHeld => ?_)
    refine wpAnyH_take (i := 0) (oi := ⟨_, _, _, _, _, _⟩) (v := ?_) rfl (by kernel_rfl) (by kernel_rfl) (by kernel_rfl) (fun _ _ _ h => nomatch h.1) (Or.inl ⟨by rfl, ?_⟩) (by assumption) ?_
    rotate_left 1
    · intro W' hSw
      obtain ⟨hS1, hS2⟩ := hSw
      go_simp
      try with_reducible rfl
    try simp only [Act.put, List.setIfInBounds_toArray, List.set_cons_zero, List.set_cons_succ]
    refine wpAnyH_take (i := 1) (oi := ⟨_, _, _, _, _, _⟩) (v := ?_) rfl (by kernel_rfl) (by kernel_rfl) (by kernel_rfl) (fun _ _ _ h => nomatch h.1) (Or.inl ⟨by rfl, ?_⟩) (by assumption) ?_
    rotate_left 1
    · intro W' hSw
      obtain ⟨hS1, hS2⟩ := hSw
      go_simp
      try with_reducible rfl
    try simp only [Act.put, List.setIfInBounds_toArray, List.set_cons_zero, List.set_cons_succ]
    refine wpAnyH_take (i := 2) (oi := ⟨_, _, _, _, _, _⟩) (v := ?_) rfl (by kernel_rfl) (by kernel_rfl) (by kernel_rfl) (fun _ _ _ h => nomatch h.1) (Or.inl ⟨by rfl, ?_⟩) (by assumption) ?_
    rotate_left 1
    · intro W' hSw
      obtain ⟨hS1, hS2⟩ := hSw
      go_simp
      try with_reducible rfl
    try simp only [Act.put, List.setIfInBounds_toArray, List.set_cons_zero, List.set_cons_succ]
    refine wpAnyH_take (i := 3) (oi := ⟨_, _, _, _, _, _⟩) (v := ?_) rfl (by kernel_rfl) (by kernel_rfl) (by kernel_rfl) (fun _ _ _ h => nomatch h.1) (Or.inl ⟨by rfl, ?_⟩) (by assumption) ?_
    rotate_left 1
    · intro W' hSw
      obtain ⟨hS1, hS2⟩ := hSw
      go_simp
      try with_reducible rfl
    try simp only [Act.put, List.setIfInBounds_toArray, List.set_cons_zero, List.set_cons_succ]
    refine wpAnyH_take (i := 4) (oi := ⟨_, _, _, _, _, _⟩) (v := ?_) rfl (by kernel_rfl) (by kernel_rfl) (by kernel_rfl) (fun _ _ _ h => nomatch h.1) (Or.inl ⟨by rfl, ?_⟩) (by assumption) ?_
    rotate_left 1
    · intro W' hSw
      obtain ⟨hS1, hS2⟩ := hSw
      go_simp
      try with_reducible rfl
    try simp only [Act.put, List.setIfInBounds_toArray, List.set_cons_zero, List.set_cons_succ]
    refine wpAnyH_take (i := 5) (oi := ⟨_, _, _, _, _, _⟩) (v := ?_) rfl (by kernel_rfl) (by kernel_rfl) (by kernel_rfl) (fun _ _ _ h => nomatch h.1) (Or.inl ⟨by rfl, ?_⟩) (by assumption) ?_
    rotate_left 1
    · intro W' hSw
      obtain ⟨hS1, hS2⟩ := hSw
      go_simp
      try with_reducible rfl
    try simp only [Act.put, List.setIfInBounds_toArray, List.set_cons_zero, List.set_cons_succ]
    refine wpAnyH_ready (rs := [6, 7]) (by kernel_rfl) (by simp) ?_
    refine AllReadyH.cons (o := ⟨_, _, _, _, _, _⟩) rfl (fun K' hK => ?_) (AllReadyH.cons (o := ⟨_, _, _, _, _, _⟩) rfl (fun K' hK => ?_) AllReadyH.nil)
    · go_simp
      refine (HRS.out _ HXD.out).mono ?_
      rintro en V5 ⟨rfl, hx5⟩
      dsimp only
      have hx15 : W1.Extends V5 := Go.World.Extends.trans HXD.out hx5
      have hSA : ∀ X, blk (V5.alloc X) bs = some CS ∧ blk (V5.alloc X) b3 = some IE := fun X => HSS.out _ (extends_alloc hx15 _)
      refine hK.out _ _ (HSS.out _ hx15) (fun hHeld => ?_)
      clear hK K'
      try simp only [Act.put, List.setIfInBounds_toArray, List.set_cons_zero, List.set_cons_succ]
      refine wpAnyH_ready (rs := [7]) (by kernel_rfl) (by simp) ?_
      refine AllReadyH.cons (o := ⟨_, _, _, _, _, _⟩) rfl (fun K' hK => ?_) AllReadyH.nil
      go_simp
      refine hK.out _ _ (hSA _) (fun hHeld => ?_)
      clear hK K'
      try simp only [Act.put, List.setIfInBounds_toArray, List.set_cons_zero, List.set_cons_succ]
      refine wpAnyH_ready (rs := [8]) (by kernel_rfl) (by simp) ?_
      refine AllReadyH.cons (o := ⟨_, _, _, _, _, _⟩) rfl (fun K' hK => ?_) AllReadyH.nil
      go_simp
      refine hK.out _ _ (hSA _) (fun hHeld => ?_)
      clear hK K'
      try simp only [Act.put, List.setIfInBounds_toArray, List.set_cons_zero, List.set_cons_succ]
      refine wpAnyH_done (by kernel_rfl) ?_ _
      refine ⟨rfl, V5.heap.size, cut_intro _ rfl ⟨rfl, rfl, rfl, rfl, ?_⟩⟩
      exact ⟨extends_alloc hx15 _, by rw [blk_alloc, if_pos rfl]⟩
    · go_simp
      first | rw [show (W1.drew.alloc (.cells (arr i64v (Vector.replicate 4 (0 : Int))).toArray 214)).drew = W1.drew.drew.alloc (.cells (arr i64v (Vector.replicate 4 (0 : Int))).toArray 214) from rfl] | rw [show (W1.alloc (.cells (arr i64v (Vector.replicate 4 (0 : Int))).toArray 214)).drew.drew = W1.drew.drew.alloc (.cells (arr i64v (Vector.replicate 4 (0 : Int))).toArray 214) from rfl] | rw [show (W1.alloc (.cells (arr i64v (Vector.replicate 4 (0 : Int))).toArray 214)).drewN 2 = W1.drew.drew.alloc (.cells (arr i64v (Vector.replicate 4 (0 : Int))).toArray 214) from rfl] | skip
      have hxa : W1.Extends (W1.drew.drew.alloc (.cells (arr i64v (Vector.replicate 4 (0 : Int))).toArray 214)) := extends_alloc HXD.out _
      have HXA := hid_of hxa
      have hba : blk (W1.drew.drew.alloc (.cells (arr i64v (Vector.replicate 4 (0 : Int))).toArray 214)) W1.heap.size = some (arr i64v (Vector.replicate 4 (0 : Int))) := by rw [blk_alloc, if_pos (show W1.heap.size = W1.drew.drew.heap.size from rfl)]
      have hfa : free (W1.drew.drew.alloc (.cells (arr i64v (Vector.replicate 4 (0 : Int))).toArray 214)) W1.heap.size = true := by rw [free_alloc, if_pos (show W1.heap.size = W1.drew.drew.heap.size from rfl)]
      have HBA : Hid (blk (W1.drew.drew.alloc (.cells (arr i64v (Vector.replicate 4 (0 : Int))).toArray 214)) W1.heap.size = some (arr i64v (Vector.replicate 4 (0 : Int))) ∧ free (W1.drew.drew.alloc (.cells (arr i64v (Vector.replicate 4 (0 : Int))).toArray 214)) W1.heap.size = true) := ⟨hba, hfa⟩
      have n3s : ¬ b3 = W1.heap.size := by have := blk_lt hb3; omega
      have nss : ¬ bs = W1.heap.size := by have := blk_lt hbs1; omega
      clear hxa hba hfa
      refine hK.out _ _ (HSS.out _ HXA.out) (fun hHeld => ?_)
      clear hK K'
      try simp only [Act.put, List.setIfInBounds_toArray, List.set_cons_zero, List.set_cons_succ]
      refine wpAnyH_ready (rs := [6]) (by kernel_rfl) (by simp) ?_
      refine AllReadyH.cons (o := ⟨_, _, _, _, _, _⟩) rfl (fun K' hK => ?_) AllReadyH.nil
      go_simp
      refine (HRS.out _ HXA.out).mono ?_
      rintro en V5 ⟨rfl, hx5⟩
      dsimp only
      have hx15 : W1.Extends V5 := Go.World.Extends.trans HXA.out hx5
      have hbz : blk V5 W1.heap.size = some (arr i64v (Vector.replicate 4 (0 : Int))) := (hx5.blk (blk_lt HBA.out.1)).trans HBA.out.1
      have hfz : free V5 W1.heap.size = true := (free_of_heap (hx5.block W1.heap.size (blk_lt HBA.out.1))).trans HBA.out.2
      have hSB : ∀ C, blk (put V5 W1.heap.size C) bs = some CS ∧ blk (put V5 W1.heap.size C) b3 = some IE := fun C => ⟨by rw [blk_put, if_neg nss]; exact (HSS.out _ hx15).1, by rw [blk_put, if_neg n3s]; exact (HSS.out _ hx15).2⟩
      refine hK.out _ _ (HSS.out _ hx15) (fun hHeld => ?_)
      clear hK K'
      try simp only [Act.put, List.setIfInBounds_toArray, List.set_cons_zero, List.set_cons_succ]
      refine wpAnyH_ready (rs := [8]) (by kernel_rfl) (by simp) ?_
      refine AllReadyH.cons (o := ⟨_, _, _, _, _, _⟩) rfl (fun K' hK => ?_) AllReadyH.nil
      go_simp
      refine hK.out _ _ (hSB _) (fun hHeld => ?_)
      clear hK K'
      try simp only [Act.put, List.setIfInBounds_toArray, List.set_cons_zero, List.set_cons_succ]
      refine wpAnyH_done (by kernel_rfl) ?_ _
      refine ⟨rfl, W1.heap.size, cut_intro _ rfl ⟨rfl, rfl, rfl, rfl, ?_⟩⟩
      exact ⟨extends_put hx15 (Nat.le_refl _) _, by rw [blk_put, if_pos rfl, hbz]; rfl⟩
  rw [HR4.out]
  rintro _ V4 ⟨b6, f4, rfl, f0, f3, f4', f6, H4⟩
  rw [frame45q, f0, f3, f4', f6]
  clear f0 f3 f4' f6
  obtain ⟨hx4, hb6⟩ := H4.out
  obtain ⟨Ox, hFx, hMx, ho4x⟩ := HX.out V4 hx4
  obtain ⟨kb3, kb4, kf4, kbs⟩ := HB34.out V4 hx4
  have hlow := lower_any hMx.cell hMx.fre hMx.c.len hMx.c.c3 hcl.1 (by omega) 5
  have hcsl := hMx.c.len
  have nb3 : b3 ≠ bs := fun e => by
    rw [e] at kb3
    have h9 := congrArg List.length (Option.some.inj (kb3.symm.trans kbs))
    rw [hcsl, HIL.out] at h9
    omega
  have nb6 : b6 ≠ bs := fun e => by
    rw [e] at hb6
    have h9 := congrArg List.length (Option.some.inj (hb6.symm.trans kbs))
    rw [hcsl, length_arr] at h9
    omega
  have nb4 : b4 ≠ bs := fun e => by
    have := HM.out.cell
    have := blk_lt this
    omega
  have HMX := hid_of hMx
  have HFX := hid_of hFx
  have HO4X := hid_of ho4x
  have HK : Hid (blk V4 b3 = some IE ∧ blk V4 b4 = some Reply.zero.enc ∧ free V4 b4 = true ∧ blk V4 b6 = some (arr i64v TT)) := ⟨kb3, kb4, kf4, hb6⟩
  clear hx4 hb6 hFx hMx ho4x kb3 kb4 kf4 kbs hcsl H4 hb3 hb4 hf4 hbs1 c0 l0
  go_wp2_with fail
  refine hlow.mono ?_
  rintro e V5 ⟨rfl, hOn⟩
  dsimp only
  obtain ⟨hFl, hM5⟩ := HMX.out.low 5 hOn
  have k3 : blk V5 b3 = some IE := (blk_of_heap (hOn.heap b3 nb3)).trans HK.out.1
  have k4 : blk V5 b4 = some Reply.zero.enc := (blk_of_heap (hOn.heap b4 nb4)).trans HK.out.2.1
  have kf : free V5 b4 = true := (free_of_heap (hOn.heap b4 nb4)).trans HK.out.2.2.1
  have k6 : blk V5 b6 = some (arr i64v TT) := (blk_of_heap (hOn.heap b6 nb6)).trans HK.out.2.2.2
  have hFW : Fr (fun l => l = .a 0 0) O W Ox V5 := (HFX.out.mono (fun _ e => e.elim)).trans hFl
  obtain ⟨CS2, hCS2⟩ : ∃ CS2, CS2 = splice (splice CS 2 [.int .i64 5]) 3 [.int .i64 (s.calls + 1)] := ⟨_, rfl⟩
  rw [← hCS2] at hM5
  have HM5 := hid_of hM5
  have HFW := hid_of hFW
  have HK5 : Hid (∀ V, V5.Extends V → blk V b3 = some IE ∧ blk V b4 = some Reply.zero.enc ∧ free V b4 = true ∧ blk V b6 = some (arr i64v TT) ∧ blk V bs = some CS2) := fun V hx => ⟨(hx.blk (blk_lt k3)).trans k3, (hx.blk (blk_lt k4)).trans k4, (free_of_heap (hx.block b4 (blk_lt k4))).trans kf, (hx.blk (blk_lt k6)).trans k6, (hx.blk (blk_lt hM5.cell)).trans hM5.cell⟩
  have hac := accept_any V5 5
  have rl := Reply.length_enc (repZ 0 5 (-1))
  have ro := Reply.ok_enc (repZ 0 5 (-1))
  have rs := Reply.all_set Reply.zero (repZ 0 5 (-1))
  have d0 := hM5.c.c0
  have d0l : 0 < CS2.length := by rw [hM5.c.len]; omega
  obtain ⟨RE, hRE⟩ : ∃ RE, RE = Reply.enc (repZ 0 5 (-1)) := ⟨_, rfl⟩
  rw [← hRE] at hac rl ro rs
  have HRE := hid_of hRE
  clear hlow hOn hFl hM5 k3 k4 kf k6 hFW hCS2 hRE HFX HMX HK
  go_wp2_with fail
  refine hac.mono ?_
  rintro e V6 ⟨rfl, hx6⟩
  dsimp only
  have HX6 := hid_of hx6
  clear hac hx6
  go_upto_region 7 with fail
  refine wp_world (fun V' => V5.Extends V' ∧ blk V' V6.heap.size = some RE ∧ free V' V6.heap.size = true) ⟨?_, ?_, ?_⟩ ?_
  · first | exact extends_alloc HX6.out _ | exact extends_put (extends_alloc HX6.out _) HX6.out.size _
  · first | (rw [blk_alloc, if_pos rfl]) | (rw [blk_put, if_pos rfl, blk_alloc, if_pos rfl]; rfl)
  · first | (rw [free_alloc, if_pos rfl]) | (rw [free_put, free_alloc, if_pos rfl])
  rintro V7 ⟨hx7, hb7, hf7⟩
  obtain ⟨b7, e7⟩ : ∃ b7, b7 = V6.heap.size := ⟨_, rfl⟩
  rw [← e7] at hb7 hf7 ⊢
  have hw7 : V5.heap.size ≤ b7 := by rw [e7]; exact HX6.out.size
  clear e7
  have HX7 := hid_of hx7
  obtain ⟨B2, bi2, eip, -, hI5⟩ := HM5.out.ins t HT.out
  have ebi : bi = bi2 := congrArg Addr.block (Option.some.inj eip)
  subst ebi
  obtain ⟨CI, bst, be, A, hm7⟩ := hI5.ext hx7
  obtain ⟨L, hL⟩ : ∃ L, t.R[pr]? = some L := ⟨_, List.getElem?_eq_getElem (by rw [HOK.out.inv.2]; exact HPR.out)⟩
  have hcon := contains_any (hm7.st.ext (extd V7)) hL (by
    have := HOK.out.cap
    unfold overB at this
    rw [List.any_eq_false] at this
    have h9 := this L (List.mem_of_getElem? hL)
    have h8 : L.length ≤ 512 := by simpa using h9
    omega) (by have := HOK.out.inv.2; have := HOK.out.pok.nD; omega) TT
  obtain ⟨mb, hmb⟩ : ∃ mb, mb = decide (TT ∈ L) := ⟨_, rfl⟩
  rw [← hmb] at hcon
  have HMB : Hid (mb = decide (mkT (resV t.N args) args.length ∈ rowsAt t.R pr)) := by
    rw [rowsAt_some hL, ← HTT.out]; exact hid_of hmb
  have ci4 := hm7.ic.c4
  have cil : 4 < CI.length := by rw [hm7.ic.len]; omega
  have kbi := hm7.cell
  obtain ⟨k3, k4, kf, k6, ks⟩ := HK5.out V7 hx7
  have HS7 : Hid (∀ V, V7.Extends V → (blk V bs = some CS2 ∧ blk V bi = some CI) ∧ blk V b3 = some IE ∧ blk V b6 = some (arr i64v TT)) := fun V hx => ⟨⟨(hx.blk (blk_lt ks)).trans ks, (hx.blk (blk_lt kbi)).trans kbi⟩, (hx.blk (blk_lt k3)).trans k3, (hx.blk (blk_lt k6)).trans k6⟩
  have hSd := HS7.out V7.drew (extd V7)
  have HB7 := hid_of hb7
  have HF7 := hid_of hf7
  have hlb : (arr i64v TT).length = 4 := length_arr _ _
  have sgT : seg (arr i64v TT) 0 4 = arr i64v TT := seg_all _ _ hlb
  have n7s : ¬ bs = b7 := by have := blk_lt HM5.out.cell; omega
  have n7i : ¬ bi = b7 := by obtain ⟨_, _, _, _, hm5⟩ := hI5; have := blk_lt hm5.cell; omega
  have n73 : ¬ b3 = b7 := by have := blk_lt (HK5.out V5 (ext_Ext (Ext.refl _))).1; omega
  have n76 : ¬ b6 = b7 := by have := blk_lt (HK5.out V5 (ext_Ext (Ext.refl _))).2.2.2.1; omega
  have n74 : ¬ b4 = b7 := by have := blk_lt (HK5.out V5 (ext_Ext (Ext.refl _))).2.1; omega
  have re3 : 3 < RE.length := by omega
  have re3' : 3 + 1 ≤ RE.length := by omega
  clear hx7 hb7 hf7 hI5 hm7 hL hmb k3 k4 kf k6 ks kbi eip
  refine wp_region_held_drew (S := fun W' => (blk W' bs = some CS2 ∧ blk W' bi = some CI) ∧ blk W' b3 = some IE ∧ blk W' b6 = some (arr i64v TT)) (by kernel_rfl) hSd (fun hHeld => ?_)
  refine wpAnyH_take (i := 0) (oi := ⟨_, _, _, _, _, _⟩) (v := ?_) rfl (by kernel_rfl) (by kernel_rfl) (by kernel_rfl) (fun _ _ _ h => h) (Or.inl ⟨by rfl, ?_⟩) (by assumption) ?_
  rotate_left 1
  · intro W' hSw
    obtain ⟨⟨hS1, hS2⟩, hS3, hS4⟩ := hSw
    go_simp
    try with_reducible rfl
  try simp only [Act.put, List.setIfInBounds_toArray, List.set_cons_zero, List.set_cons_succ]
  refine wpAnyH_take (i := 1) (oi := ⟨_, _, _, _, _, _⟩) (v := ?_) rfl (by kernel_rfl) (by kernel_rfl) (by kernel_rfl) (fun _ _ _ h => h) (Or.inl ⟨by rfl, ?_⟩) (by assumption) ?_
  rotate_left 1
  · intro W' hSw
    obtain ⟨⟨hS1, hS2⟩, hS3, hS4⟩ := hSw
    go_simp
    try with_reducible rfl
  try simp only [Act.put, List.setIfInBounds_toArray, List.set_cons_zero, List.set_cons_succ]
  refine wpAnyH_take (i := 2) (oi := ⟨_, _, _, _, _, _⟩) (v := ?_) rfl (by kernel_rfl) (by kernel_rfl) (by kernel_rfl) (fun _ _ _ h => h) (Or.inl ⟨by rfl, ?_⟩) (by assumption) ?_
  rotate_left 1
  · intro W' hSw
    obtain ⟨⟨hS1, hS2⟩, hS3, hS4⟩ := hSw
    go_simp
    try with_reducible rfl
  try simp only [Act.put, List.setIfInBounds_toArray, List.set_cons_zero, List.set_cons_succ]
  refine wpAnyH_take (i := 3) (oi := ⟨_, _, _, _, _, _⟩) (v := ?_) rfl (by kernel_rfl) (by kernel_rfl) (by kernel_rfl) (fun _ _ _ h => h) (Or.inl ⟨by rfl, ?_⟩) (by assumption) ?_
  rotate_left 1
  · intro W' hSw
    obtain ⟨⟨hS1, hS2⟩, hS3, hS4⟩ := hSw
    go_simp
    try with_reducible rfl
  try simp only [Act.put, List.setIfInBounds_toArray, List.set_cons_zero, List.set_cons_succ]
  refine wpAnyH_take (i := 4) (oi := ⟨_, _, _, _, _, _⟩) (v := ?_) rfl (by kernel_rfl) (by kernel_rfl) (by kernel_rfl) (fun _ _ _ h => h) (Or.inl ⟨by rfl, ?_⟩) (by assumption) ?_
  rotate_left 1
  · intro W' hSw
    obtain ⟨⟨hS1, hS2⟩, hS3, hS4⟩ := hSw
    go_simp
    try with_reducible rfl
  try simp only [Act.put, List.setIfInBounds_toArray, List.set_cons_zero, List.set_cons_succ]
  refine wpAnyH_take (i := 5) (oi := ⟨_, _, _, _, _, _⟩) (v := ?_) rfl (by kernel_rfl) (by kernel_rfl) (by kernel_rfl) (fun _ _ _ h => h) (Or.inl ⟨by rfl, ?_⟩) (by assumption) ?_
  rotate_left 1
  · intro W' hSw
    obtain ⟨⟨hS1, hS2⟩, hS3, hS4⟩ := hSw
    go_simp
    try with_reducible rfl
  try simp only [Act.put, List.setIfInBounds_toArray, List.set_cons_zero, List.set_cons_succ]
  refine wpAnyH_take (i := 6) (oi := ⟨_, _, _, _, _, _⟩) (v := ?_) rfl (by kernel_rfl) (by kernel_rfl) (by kernel_rfl) (fun _ _ _ h => h) (Or.inl ⟨by rfl, ?_⟩) (by assumption) ?_
  rotate_left 1
  · intro W' hSw
    obtain ⟨⟨hS1, hS2⟩, hS3, hS4⟩ := hSw
    go_simp
    try with_reducible rfl
  try simp only [Act.put, List.setIfInBounds_toArray, List.set_cons_zero, List.set_cons_succ]
  refine wpAnyH_take (i := 7) (oi := ⟨_, _, _, _, _, _⟩) (v := ?_) rfl (by kernel_rfl) (by kernel_rfl) (by kernel_rfl) (fun _ _ _ h => h) (Or.inl ⟨by rfl, ?_⟩) (by assumption) ?_
  rotate_left 1
  · intro W' hSw
    obtain ⟨⟨hS1, hS2⟩, hS3, hS4⟩ := hSw
    go_simp
    try with_reducible rfl
  try simp only [Act.put, List.setIfInBounds_toArray, List.set_cons_zero, List.set_cons_succ]
  refine wpAnyH_take (i := 8) (oi := ⟨_, _, _, _, _, _⟩) (v := ?_) rfl (by kernel_rfl) (by kernel_rfl) (by kernel_rfl) (fun _ _ _ h => h) (Or.inl ⟨by rfl, ?_⟩) (by assumption) ?_
  rotate_left 1
  · intro W' hSw
    obtain ⟨⟨hS1, hS2⟩, hS3, hS4⟩ := hSw
    go_simp
    try with_reducible rfl
  try simp only [Act.put, List.setIfInBounds_toArray, List.set_cons_zero, List.set_cons_succ]
  refine wpAnyH_take (i := 9) (oi := ⟨_, _, _, _, _, _⟩) (v := ?_) rfl (by kernel_rfl) (by kernel_rfl) (by kernel_rfl) (fun _ _ _ h => h) (Or.inl ⟨by rfl, ?_⟩) (by assumption) ?_
  rotate_left 1
  · intro W' hSw
    obtain ⟨⟨hS1, hS2⟩, hS3, hS4⟩ := hSw
    go_simp
    try with_reducible rfl
  try simp only [Act.put, List.setIfInBounds_toArray, List.set_cons_zero, List.set_cons_succ]
  refine wpAnyH_ready (rs := [10]) (by kernel_rfl) (by simp) ?_
  refine AllReadyH.cons (o := ⟨_, _, _, _, _, _⟩) rfl (fun K' hK => ?_) AllReadyH.nil
  go_simp
  refine hcon.mono ?_
  rintro en V8 ⟨rfl, hx8⟩
  dsimp only
  have hx78 := (extd V7).trans hx8
  have hb78 : blk V8 b7 = some RE := (hx78.blk (blk_lt HB7.out)).trans HB7.out
  have hf78 : free V8 b7 = true := (free_of_heap (hx78.block b7 (blk_lt HB7.out))).trans HF7.out
  have hS8 := HS7.out V8 hx78
  have hSp : ∀ C, (blk (put V8 b7 C) bs = some CS2 ∧ blk (put V8 b7 C) bi = some CI) ∧ blk (put V8 b7 C) b3 = some IE ∧ blk (put V8 b7 C) b6 = some (arr i64v TT) := fun C => ⟨⟨by rw [blk_put, if_neg n7s]; exact hS8.1.1, by rw [blk_put, if_neg n7i]; exact hS8.1.2⟩, by rw [blk_put, if_neg n73]; exact hS8.2.1, by rw [blk_put, if_neg n76]; exact hS8.2.2⟩
  refine hK.out _ _ hS8 (fun hHeld => ?_)
  clear hK K'
  try simp only [Act.put, List.setIfInBounds_toArray, List.set_cons_zero, List.set_cons_succ]
  refine wpAnyH_take (i := 11) (oi := ⟨_, _, _, _, _, _⟩) (v := ?_) rfl (by kernel_rfl) (by kernel_rfl) (by kernel_rfl) (fun _ _ _ h => h) (Or.inl ⟨by rfl, ?_⟩) (by assumption) ?_
  rotate_left 1
  · intro W' hSw
    obtain ⟨⟨hS1, hS2⟩, hS3, hS4⟩ := hSw
    go_simp
    try with_reducible rfl
  try simp only [Act.put, List.setIfInBounds_toArray, List.set_cons_zero, List.set_cons_succ]
  refine wpAnyH_ready (rs := [12]) (by kernel_rfl) (by simp) ?_
  refine AllReadyH.cons (o := ⟨_, _, _, _, _, _⟩) rfl (fun K' hK => ?_) AllReadyH.nil
  go_simp
  refine hK.out _ _ (hSp _) (fun hHeld => ?_)
  clear hK K'
  try simp only [Act.put, List.setIfInBounds_toArray, List.set_cons_zero, List.set_cons_succ]
  refine wpAnyH_done (by kernel_rfl) ?_ _
  have hRY : splice RE 3 [.bool mb] = Reply.enc (qyR t pr args) := by
    unfold qyR
    rw [HRE.out, ← HMB.out]; rfl
  have yl := Reply.length_enc (qyR t pr args)
  have yo := Reply.ok_enc (qyR t pr args)
  have ya := Reply.all_get (qyR t pr args)
  have ysx := Reply.all_set Reply.zero (qyR t pr args)
  have hx9 : V5.Extends (put V8 b7 (splice RE 3 [.bool mb])) := extends_put (HX7.out.trans hx78) hw7 _
  have hkk := HK5.out _ hx9
  have hb79 : blk (put V8 b7 (splice RE 3 [.bool mb])) b7 = some (splice RE 3 [.bool mb]) := by rw [blk_put, if_pos rfl, hb78]; rfl
  have HP : Hid (Q (.returned (.agg (Reply.enc (qyR t pr args)).toArray)) (put (put V8 b7 (splice RE 3 [.bool mb])) b4 (Reply.enc (qyR t pr args)))) := by
    have hF := Fr.grow (L := fun _ => False) (O := Ox) hx9
    refine HFIN.out _ _ _ ⟨s.inst, s.img, 5, s.calls + 1, s.rst⟩ CS2 (HFW.out.trans (hF.mono (fun _ e => e.elim))) (HM5.out.frF hF) ?_ HQY.out
    exact (hF.keep b4 (blk_lt (HK5.out V5 (ext_Ext (Ext.refl _))).2.1)).trans HO4X.out
  rw [hRY] at HP hb79 hkk hx9 ⊢
  obtain ⟨RY, hRYe⟩ : ∃ RY, RY = Reply.enc (qyR t pr args) := ⟨_, rfl⟩
  rw [← hRYe] at HP hb79 hkk hx9 yl yo ya ysx ⊢
  obtain ⟨V9, hV9⟩ : ∃ V9, V9 = put V8 b7 RY := ⟨_, rfl⟩
  rw [← hV9] at HP hb79 hkk hx9 ⊢
  obtain ⟨-, hb4, hf4, -, -⟩ := hkk
  have yl0 : 0 + 11 ≤ RY.length := by omega
  clear hcon hx8 hx78 hb78 hf78 hS8 hSp hRY hx9 hRYe hV9 hSd
  go_wp2_with fail
  refine ret_cell (C := RY) rfl rfl ?_ (by kernel_rfl) (by rw [yl]; kernel_rfl) rfl HP.out
  first | (rw [blk_put, if_pos rfl, hb4]; rfl) | (simp only [blk_put, if_true, hb4, Option.map_some]; try rfl)
end Go.Proofs.Qxb6500787aGreat
