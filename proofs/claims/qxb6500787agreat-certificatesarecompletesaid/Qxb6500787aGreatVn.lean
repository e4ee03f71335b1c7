
import Derived.Test.Qxb6500787aGreatVm
import Derived.StillTailTactics
import Derived.Deep.QuietTactic
import Derived.BigQuiet
import Derived.Deep.RegionHeld
import Derived.Deep.CutRange
import Derived.Laws.ResultCell
import Derived.Laws.Rows
import Derived.DeepKeys
import Derived.DataBytes
import Derived.Laws.StructEq
import Derived.Laws.AppendOwn
import Derived.Laws.MakeOwn
import Derived.Lib.AppendStr
set_option linter.unusedSimpArgs false
set_option linter.unusedVariables false
namespace Go.Proofs.Qxb6500787aGreat
open Go.RowKit Go.Blk
attribute [local go_sem ↓] execOp_load execOp_store execOp_alloc
attribute [local go_sem] Tryz.ld26 Tryz.st26 Tryz.ld27 Tryz.st27 Tryz.ld28 Tryz.st28 Tryz.ld3 Tryz.st3 Tryz.ld29 Tryz.st29 Tryz.ld44 Tryz.st44 Tryz.ld4 Tryz.st4 Tryz.ld50 Tryz.st50 Tryz.ld32 Tryz.st32 Tryz.ld49 Tryz.st49 Tryz.ld68 Tryz.st68 Tryz.ld9 Tryz.st9 Tryz.ld40 Tryz.st40 Tryz.ld138 Tryz.st138 Tryz.ld139 Tryz.st139 Tryz.ld146 Tryz.st146 Tryz.ld183 Tryz.st183 Tryz.ld184 Tryz.st184 Tryz.ld192 Tryz.st192 Tryz.ld195 Tryz.st195 Tryz.ld217 Tryz.st217 Tryz.ld159 Tryz.st159 Tryz.ld142 Tryz.st142 Tryz.ld2 Tryz.st2 Tryz.ld5 Tryz.st5 Tryz.ld12 Tryz.st12 Tryz.ld21 Tryz.st21 Tryz.ld22 Tryz.st22 Tryz.ld24 Tryz.st24 Tryz.ld58 Tryz.st58 Tryz.ld97 Tryz.st97 Tryz.ld101 Tryz.st101 Tryz.ld116 Tryz.st116 Tryz.ld121 Tryz.st121 Tryz.ld135 Tryz.st135 Tryz.ld136 Tryz.st136 Tryz.ld143 Tryz.st143 Tryz.ld148 Tryz.st148 Tryz.ld154 Tryz.st154 Tryz.ld173 Tryz.st173 Tryz.ld187 Tryz.st187 Tryz.ld222 Tryz.st222 Tryz.ld241 Tryz.st241 Tryz.ld248 Tryz.st248 Tryz.ld268 Tryz.st268 Tryz.ld272 Tryz.st272 Tryz.ld153 Tryz.st153 Tryz.ld255 Tryz.st255 Tryz.ld256 Tryz.st256 Tryz.ld129 Tryz.st129 Tryz.ld152 Tryz.st152 Tryz.ld31 Tryz.st31 Tryz.ld46 Tryz.st46 Tryz.ld52 Tryz.st52 Tryz.ld54 Tryz.st54 Tryz.ld60 Tryz.st60 Tryz.ld70 Tryz.st70 Tryz.ld74 Tryz.st74 Tryz.ld93 Tryz.st93 Tryz.ld141 Tryz.st141 Tryz.ld151 Tryz.st151 Tryz.ld170 Tryz.st170 Tryz.ld186 Tryz.st186 Tryz.ld189 Tryz.st189 Tryz.ld194 Tryz.st194 Tryz.ld197 Tryz.st197 Tryz.ld219 Tryz.st219 Tryz.ld224 Tryz.st224 Tryz.ld230 Tryz.st230 Tryz.ld235 Tryz.st235 Tryz.ld243 Tryz.st243 Tryz.ld247 Tryz.st247 Tryz.ld252 Tryz.st252 Tryz.ld258 Tryz.st258 Tryz.al153 Tryz.al255 Tryz.al256 Tryz.al129 Tryz.al152 Tryz.al31 Tryz.al46 Tryz.al52 Tryz.al54 Tryz.al60 Tryz.al70 Tryz.al74 Tryz.al93 Tryz.al141 Tryz.al151 Tryz.al170 Tryz.al186 Tryz.al189 Tryz.al194 Tryz.al197 Tryz.al219 Tryz.al224 Tryz.al230 Tryz.al235 Tryz.al243 Tryz.al247 Tryz.al252 Tryz.al258
attribute [local go_sem] Request.length_enc Request.ok_enc Request.all_get Request.all_set Request.kind_get Request.kind_set Request.blob_get Request.blob_set Request.items_get Request.items_set Request.pred_get Request.pred_set Request.slots_get Request.slots_set Trace.length_enc Trace.ok_enc Trace.all_get Trace.all_set Trace.op_get Trace.op_set Trace.calls_get Trace.calls_set Item.length_enc Item.ok_enc Item.all_get Item.all_set Item.del_get Item.del_set Item.pred_get Item.pred_set Item.args_get Item.args_set Reply.length_enc Reply.ok_enc Reply.all_get Reply.all_set Reply.code_get Reply.code_set Reply.kind_get Reply.kind_set Reply.index_get Reply.index_set Reply.yes_get Reply.yes_set Reply.preds_get Reply.preds_set Reply.rules_get Reply.rules_set Reply.arity_get Reply.arity_set Reply.rows_get Reply.rows_set Reply.fact_get Reply.fact_set Reply.fact_del_get Reply.fact_del_set Reply.fact_pred_get Reply.fact_pred_set Reply.fact_args_get Reply.fact_args_set GEntry.length_enc GEntry.ok_enc GEntry.all_get GEntry.all_set GEntry.seq_get GEntry.seq_set GEntry.kind_get GEntry.kind_set GEntry.code_get GEntry.code_set GOp.length_enc GOp.ok_enc GOp.all_get GOp.all_set GOp.kind_get GOp.kind_set GOp.raw_get GOp.raw_set Reader.length_enc Reader.ok_enc Reader.all_get Reader.all_set Reader.buf_get Reader.buf_set Reader.at__get Reader.at__set Slot.length_enc Slot.ok_enc Slot.all_get Slot.all_set Slot.bound_get Slot.bound_set Slot.name_get Slot.name_set Session.length_enc Session.ok_enc Session.all_get Session.all_set Session.svc_get Session.svc_set Session.buf_get Session.buf_set Session.closed_get Session.closed_set GProgram.length_enc GProgram.ok_enc GProgram.all_get GProgram.all_set GProgram.pool_get GProgram.pool_set GProgram.preds_get GProgram.preds_set GProgram.rules_get GProgram.rules_set GProgram.strata_get GProgram.strata_set PredInfo.length_enc PredInfo.ok_enc PredInfo.all_get PredInfo.all_set PredInfo.arity_get PredInfo.arity_set PredInfo.base_get PredInfo.base_set PredInfo.stratum_get PredInfo.stratum_set Change.length_enc Change.ok_enc Change.all_get Change.all_set Change.del_get Change.del_set Change.pred_get Change.pred_set Change.t_get Change.t_set Store.length_enc Store.ok_enc Store.all_get Store.all_set Store.names_get Store.names_set Store.arity_get Store.arity_set Store.rows_get Store.rows_set Src.length_enc Src.ok_enc Src.all_get Src.all_set Src.b_get Src.b_set Src.at__get Src.at__set Atom.length_enc Atom.ok_enc Atom.all_get Atom.all_set Atom.pred_get Atom.pred_set Atom.args_get Atom.args_set GRule.length_enc GRule.ok_enc GRule.all_get GRule.all_set GRule.head_get GRule.head_set GRule.body_get GRule.body_set GRule.head_pred_get GRule.head_pred_set GRule.head_args_get GRule.head_args_set Cert.length_enc Cert.ok_enc Cert.all_get Cert.all_set Cert.names_get Cert.names_set Cert.nodes_get Cert.nodes_set Fact.length_enc Fact.ok_enc Fact.all_get Fact.all_set Fact.pred_get Fact.pred_set Fact.t_get Fact.t_set Literal.length_enc Literal.ok_enc Literal.all_get Literal.all_set Literal.neg_get Literal.neg_set Literal.atom_get Literal.atom_set Literal.atom_pred_get Literal.atom_pred_set Literal.atom_args_get Literal.atom_args_set Engine.length_enc Engine.ok_enc Engine.all_get Engine.all_set Engine.prog_get Engine.prog_set Engine.st_get Engine.st_set SrcCertm.length_enc SrcCertm.ok_enc SrcCertm.all_get SrcCertm.all_set SrcCertm.b_get SrcCertm.b_set SrcCertm.at__get SrcCertm.at__set GNode.length_enc GNode.ok_enc GNode.all_get GNode.all_set GNode.rule_get GNode.rule_set GNode.pred_get GNode.pred_set GNode.vals_get GNode.vals_set GNode.refs_get GNode.refs_set Term.length_enc Term.ok_enc Term.all_get Term.all_set Term.var_get Term.var_set Term.n_get Term.n_set Env.length_enc Env.ok_enc Env.all_get Env.all_set Env.val_get Env.val_set Env.set_get Env.set_set
attribute [local go_sem] size_put size_ext blk_put free_put blk_alloc free_alloc blk_drew free_drew blk_ext free_ext lookOr_some putOr_some segAt_some cellAt_some storeIn_some put_put put_alloc_new length_arr ok_arr_u8 ok_arr_u32 ok_arr_u64 ok_arr_i64 ok_arr_sl cellsV_agg cellsV_int cellsV_bool cellsV_string cellsV_pointer cellsV_slice cellsV_sl ok_int ok_bool ok_string ok_pointer ok_slice ok_sl toList_arr seg_arr set_arr nth_splice nth_splice0 seg_splice seg_splice0 splice_splice splice_splice0 length_splice_if
attribute [local go_sem ↓] execOp_box
attribute [local go_sem] box_run nth_arr_u8 put_arr_u8 blk_drewN free_drewN put_drewN blk_raw free_raw
attribute [local go_sem ↓] execOp_build execOp_bslice
attribute [local go_sem] build170a
set_option maxRecDepth 100000 in
theorem frame65i (f : Nat → Value) : frameN 65 f = #[f 0, f 1, f 2, f 3, f 4, f 5, f 6, f 7, f 8, f 9, f 10, f 11, f 12, f 13, f 14, f 15, f 16, f 17, f 18, f 19, f 20, f 21, f 22, f 23, f 24, f 25, f 26, f 27, f 28, f 29, f 30, f 31, f 32, f 33, f 34, f 35, f 36, f 37, f 38, f 39, f 40, f 41, f 42, f 43, f 44, f 45, f 46, f 47, f 48, f 49, f 50, f 51, f 52, f 53, f 54, f 55, f 56, f 57, f 58, f 59, f 60, f 61, f 62, f 63, f 64] := by kernel_rfl
set_option maxRecDepth 40000 in
set_option maxHeartbeats 4000000 in
theorem insert_any {O : Own} {W : World} {bs g : Nat} {s : Sv} {CS : List Value} {ip ia : Option Addr} {iN ic : Nat} (h : SvM O W bs g s CS ip ia iN ic) {t : InsS} (ht : s.inst = some t) (hok : InOk t) {M : Int} (hlv : -1000000 ≤ t.live ∧ t.live ≤ 1000000) (hM : M ≤ 900000000000) (h252 : 0 ≤ s.rst 252 ∧ s.rst 252 ≤ 1000000000) (hcl : 0 ≤ s.calls ∧ s.calls ≤ 100) (hfree : ∀ k, ¬ isI (1 - g) (O k) ∧ O k ≠ .a 0 8) (pr n : Nat) (aa : Option Addr) (ac : Nat) (args : List (List UInt8)) (hA : Rw encS 1 (core O W) aa n args) (hn : n ≤ 4) (hnx : ∀ mc t1 co, cuF t.p pr args.length = 0 → MrR t [(false, (pr : Int), args)] mc t1 co → InOk t1 ∧ UB M t1 ∧ t1.p = t.p) : Calls Tryz.prog 100 #[.pointer (some ⟨bs, 0, none⟩), .agg (itemE false (pr : Int) aa n ac).toArray] W (HdRel O W bs (inR s t pr args)) := by
  obtain ⟨Q, hQ⟩ : ∃ Q, Q = HdRel O W bs (inR s t pr args) := ⟨_, rfl⟩
  rw [← hQ]
  have HQ := hid_of hQ
  have HM := hid_of h
  have HT := hid_of ht
  have HOK := hid_of hok
  have HA := hid_of hA
  have HFREE := hid_of hfree
  have HNX := hid_of hnx
  obtain ⟨B, bi, rfl, hB, hI⟩ := h.ins t ht
  have HI := hid_of hI
  have HBW := hid_of hB
  have hal : args.length = n := hA.1
  have HAL := hid_of hal
  have c0 := h.c.c0
  have l0 : 0 < CS.length := by rw [h.c.len]; omega
  have hgl := h.gl
  obtain ⟨IE, hIE⟩ : ∃ IE, IE = itemE false (pr : Int) aa n ac := ⟨_, rfl⟩
  have i1 : nth IE 1 = some (.int .i64 (pr : Int)) := by rw [hIE]; rfl
  have i2 : nth IE 2 = some (.slice aa n ac) := by rw [hIE]; rfl
  have il : IE.length = 3 := by rw [hIE]; rfl
  have sgI : seg IE 0 3 = IE := seg_all _ _ il
  have ilx : 0 + 3 ≤ IE.length := by omega
  have bsI : ∀ w : World, (bsliceOp 34 1 #[(0, .agg IE.toArray)]).run Tryz.prog w = .ok (.value (.slice (some ⟨w.heap.size, 0, none⟩) 1 1)) (w.alloc (.cells IE.toArray 67)) := by rw [hIE]; exact fun w => bslice28 w _ _ _ _ _
  have HIE := hid_of hIE
  rw [← hIE]
  have HIL := hid_of il
  have il1 : 1 < IE.length := by omega
  have il2 : 2 < IE.length := by omega
  clear hQ h ht hok hA hB hI hal hIE il hfree hnx
  go_enter Tryz.func100, Tryz.ntmps100
  go_upto_region 1 with fail
  refine wp_world (fun V => W.Extends V ∧ blk V W.heap.size = some IE ∧ blk V (W.heap.size + 1) = some Reply.zero.enc ∧ free V (W.heap.size + 1) = true ∧ V.heap.size = W.heap.size + 2) ⟨extends_alloc (extends_alloc (ext_Ext (Ext.refl _)) _) _, ?_, ?_, ?_, ?_⟩ ?_
  · rw [blk_alloc, if_neg (by rw [World.size_alloc]; omega), blk_alloc, if_pos rfl]
  · rw [blk_alloc, if_pos (by rw [World.size_alloc])]; try rfl
  · rw [free_alloc, if_pos (by rw [World.size_alloc])]
  · rw [World.size_alloc, World.size_alloc]
  rintro W1 ⟨hx1, hb3, hb4, hf4, hsz1⟩
  try simp only [World.size_alloc]
  obtain ⟨O1, hO1⟩ : ∃ O1, O1 = lab O W.heap.size (.a 9 9) := ⟨_, rfl⟩
  have hF1 : Fr (fun _ => False) O W O1 W1 := by rw [hO1]; exact ⟨hx1.os, hx1.tape, hx1.output, hx1.size, fun k hk => lab_lt hk, fun k hk _ => hx1.block k hk⟩
  obtain ⟨b4, e4⟩ : ∃ b4, b4 = W.heap.size + 1 := ⟨_, rfl⟩
  obtain ⟨b3, e3⟩ : ∃ b3, b3 = W.heap.size := ⟨_, rfl⟩
  rw [← e4] at hb4 hf4 ⊢
  rw [← e3] at hb3 ⊢
  have ho4 : O1 b4 = .a 9 9 := by rw [hO1, e4]; exact lab_ge (by omega)
  have ho3 : O1 b3 = .a 9 9 := by rw [hO1, e3]; exact lab_ge (by omega)
  have hH1 : HC O W bs b4 O1 W1 g s CS (some ⟨bi, 0, none⟩) ia iN ic := ⟨Kp.fr hF1 (fun _ _ e => e), HM.out.frF hF1, by omega, hb4, hf4, ho4⟩
  have hfr1 : ∀ k, ¬ isI (1 - g) (O1 k) ∧ O1 k ≠ .a 0 8 := fun k => by
    rw [hO1]
    by_cases hk : k < W.heap.size
    · rw [lab_lt hk]; exact HFREE.out k
    · rw [lab_ge (by omega)]; exact ⟨isI_99 (by omega), fun e => by cases e⟩
  have hbs1 := hH1.sv.cell
  have hpc : ProgC W1 bi t.p := by
    obtain ⟨CI, bst, be, A, hm⟩ := HI.out.ext hx1
    exact ProgL.c hm.progL
  have hcr := checkUpdate_any (W := W1.drew) (hpc.ext (extd W1)) false pr n aa ac
  rw [← HIE.out] at hcr
  obtain ⟨cd, hcd⟩ : ∃ cd, cd = cuF t.p pr n := ⟨_, rfl⟩
  rw [← hcd] at hcr
  have HCD := hid_of hcd
  have HH1 := hid_of hH1
  have HF1 := hid_of hF1
  have HO3 := hid_of ho3
  have HK3 : Hid (blk W1 b3 = some IE) := hb3
  have HFR1 := hid_of hfr1
  have HSS : Hid (∀ V, W1.Extends V → blk V bs = some CS ∧ blk V b3 = some IE) := fun V hx => ⟨(hx.blk (blk_lt hbs1)).trans hbs1, (hx.blk (blk_lt hb3)).trans hb3⟩
  have hS1 : blk W1.drew bs = some CS ∧ blk W1.drew b3 = some IE := ⟨hbs1, hb3⟩
  clear hx1 hsz1 hO1 hF1 e4 e3 ho4 ho3 hH1 hpc hcd hb3 hb4 hf4 hbs1 hfr1
  refine wp_region_held_drew (S := fun W' => blk W' bs = some CS ∧ blk W' b3 = some IE) (by kernel_rfl) hS1 (fun hHeld => ?_)
  refine wpAnyH_take (i := 0) (oi := ⟨_, _, _, _, _, _⟩) (v := ?_) rfl (by kernel_rfl) (by kernel_rfl) (by kernel_rfl) (fun _ _ _ h => h) (Or.inl ⟨by rfl, ?_⟩) (by assumption) ?_
  rotate_left 1
  · intro W' hSw
    obtain ⟨hS1, hS2⟩ := hSw
    go_simp
    try with_reducible rfl
  try simp only [Act.put, List.setIfInBounds_toArray, List.set_cons_zero, List.set_cons_succ]
  refine wpAnyH_take (i := 1) (oi := ⟨_, _, _, _, _, _⟩) (v := ?_) rfl (by kernel_rfl) (by kernel_rfl) (by kernel_rfl) (fun _ _ _ h => h) (Or.inl ⟨by rfl, ?_⟩) (by assumption) ?_
  rotate_left 1
  · intro W' hSw
    obtain ⟨hS1, hS2⟩ := hSw
    go_simp
    try with_reducible rfl
  try simp only [Act.put, List.setIfInBounds_toArray, List.set_cons_zero, List.set_cons_succ]
  refine wpAnyH_take (i := 2) (oi := ⟨_, _, _, _, _, _⟩) (v := ?_) rfl (by kernel_rfl) (by kernel_rfl) (by kernel_rfl) (fun _ _ _ h => h) (Or.inl ⟨by rfl, ?_⟩) (by assumption) ?_
  rotate_left 1
  · intro W' hSw
    obtain ⟨hS1, hS2⟩ := hSw
    go_simp
    try with_reducible rfl
  try simp only [Act.put, List.setIfInBounds_toArray, List.set_cons_zero, List.set_cons_succ]
  refine wpAnyH_take (i := 3) (oi := ⟨_, _, _, _, _, _⟩) (v := ?_) rfl (by kernel_rfl) (by kernel_rfl) (by kernel_rfl) (fun _ _ _ h => h) (Or.inl ⟨by rfl, ?_⟩) (by assumption) ?_
  rotate_left 1
  · intro W' hSw
    obtain ⟨hS1, hS2⟩ := hSw
    go_simp
    try with_reducible rfl
  try simp only [Act.put, List.setIfInBounds_toArray, List.set_cons_zero, List.set_cons_succ]
  refine wpAnyH_take (i := 4) (oi := ⟨_, _, _, _, _, _⟩) (v := ?_) rfl (by kernel_rfl) (by kernel_rfl) (by kernel_rfl) (fun _ _ _ h => h) (Or.inl ⟨by rfl, ?_⟩) (by assumption) ?_
  rotate_left 1
  · intro W' hSw
    obtain ⟨hS1, hS2⟩ := hSw
    go_simp
    try with_reducible rfl
  try simp only [Act.put, List.setIfInBounds_toArray, List.set_cons_zero, List.set_cons_succ]
  refine wpAnyH_ready (rs := [5]) (by kernel_rfl) (by simp) ?_
  refine AllReadyH.cons (o := ⟨_, _, _, _, _, _⟩) rfl (fun K' hK => ?_) AllReadyH.nil
  go_simp
  refine hcr.mono ?_
  rintro en V2 ⟨rfl, hx2⟩
  dsimp only
  have HX2 : Hid (W1.Extends V2) := (extd W1).trans hx2
  have hS2 := HSS.out V2 HX2.out
  clear hx2
  refine hK.out _ _ hS2 (fun hHeld => ?_)
  clear hK K'
  try simp only [Act.put, List.setIfInBounds_toArray, List.set_cons_zero, List.set_cons_succ]
  refine wpAnyH_take (i := 6) (oi := ⟨_, _, _, _, _, _⟩) (v := ?_) rfl (by kernel_rfl) (by kernel_rfl) (by kernel_rfl) (fun _ _ _ h => h) (Or.inl ⟨by rfl, ?_⟩) (by assumption) ?_
  rotate_left 1
  · intro W' hSw
    obtain ⟨hS1, hS2⟩ := hSw
    go_simp
    try with_reducible rfl
  try simp only [Act.put, List.setIfInBounds_toArray, List.set_cons_zero, List.set_cons_succ]
  refine wpAnyH_done (by kernel_rfl) ?_ _
  have HH2 := hid_of (HH1.out.grow HX2.out .no)
  have HK3' : Hid (blk V2 b3 = some IE ∧ lab O1 W1.heap.size .no b3 = .a 9 9) := ⟨hS2.2, (lab_lt (blk_lt HK3.out)).trans HO3.out⟩
  have HFR2 : Hid (∀ k, ¬ isI (1 - g) (lab O1 W1.heap.size .no k) ∧ lab O1 W1.heap.size .no k ≠ .a 0 8) := lab_free HFR1.out
  have HA2 : Hid (Rw encS 1 (core (lab O1 W1.heap.size .no) V2) aa n args) := (HA.out.sub (Sub.ext (core_fr HF1.out (fun e => e)))).sub (Sub.ext (core_new HX2.out _))
  obtain ⟨O2, hO2⟩ : ∃ O2, O2 = lab O1 W1.heap.size .no := ⟨_, rfl⟩
  rw [← hO2] at HH2 HK3' HFR2 HA2
  clear hcr hS1 hO2 hS2
  by_cases hc0 : cd = 0
  rotate_left 1
  · have hrf := refuse_any V2 2 cd
    have HRP : Hid (∀ V, V2.Extends V → Q (.returned (.agg (Reply.enc (repZ cd 2 (-1))).toArray)) (put V b4 (Reply.enc (repZ cd 2 (-1))))) := fun V hx => by
      rw [HQ.out]
      exact (HH2.out.ext hx).fin (.inl ⟨by rw [HAL.out, ← HCD.out]; exact hc0, by rw [HAL.out, ← HCD.out], rfl⟩)
    have HB4 : Hid (blk V2 b4 = some Reply.zero.enc ∧ free V2 b4 = true) := ⟨HH2.out.rc, HH2.out.rf⟩
    have rl := Reply.length_enc (repZ cd 2 (-1))
    have ro := Reply.ok_enc (repZ cd 2 (-1))
    have rs := Reply.all_set Reply.zero (repZ cd 2 (-1))
    obtain ⟨RE, hRE⟩ : ∃ RE, RE = Reply.enc (repZ cd 2 (-1)) := ⟨_, rfl⟩
    rw [← hRE] at hrf HRP rl ro rs
    clear hRE
    have hcb : (cd != 0) = true := by simp [hc0]
    clear hc0
    go_wp2_with fail
    refine hrf.mono ?_
    rintro e Vr ⟨rfl, hxr⟩
    have hb4 := (hxr.blk (blk_lt HB4.out.1)).trans HB4.out.1
    have hf4 := (free_of_heap (hxr.block b4 (blk_lt HB4.out.1))).trans HB4.out.2
    have HP := hid_of (HRP.out Vr hxr)
    clear hrf hxr HRP
    dsimp only
    go_wp2_with fail
    refine ret_cell (C := RE) rfl rfl ?_ (by kernel_rfl) (by rw [rl]; kernel_rfl) rfl HP.out
    first | (rw [blk_put, if_pos rfl, hb4]; rfl) | (simp only [blk_put, if_true, hb4, Option.map_some]; try rfl)
  have hz : cd = 0 := hc0
  have HCU : Hid (cuF t.p pr args.length = 0) := by
    show _ = _
    rw [HAL.out, ← HCD.out]; exact hz
  have hpr : pr < t.p.preds.length := by
    have h9 := HCD.out
    rw [hz] at h9
    unfold cuF at h9
    by_cases e : t.p.preds.length ≤ pr
    · rw [if_pos e] at h9; cases h9
    · omega
  subst hz
  have HPR := hid_of hpr
  have HMK : Hid (Calls Tryz.prog 132 #[.pointer (some ⟨bs, 0, none⟩), .slice (some ⟨V2.heap.size, 0, none⟩) 1 1] (V2.alloc (.cells IE.toArray 67)) (MrPost (lab O2 V2.heap.size .no) (V2.alloc (.cells IE.toArray 67)) bs s t [(false, (pr : Int), args)])) := by
    have hxa : V2.Extends (V2.alloc (.cells IE.toArray 67)) := extends_alloc (ext_Ext (Ext.refl _)) _
    have h9 := HH2.out.grow hxa .no
    refine makeRoom_any h9.sv HT.out HOK.out hlv h252 (lab_free HFR2.out) _ 1 1 _ ?_ (by omega) (fun it hit => ?_)
    · refine its_one (b := V2.heap.size) (aa := aa) (n := n) (ac := ac) ?_ (HA2.out.sub (Sub.ext (core_new hxa _)))
      rw [← HIE.out]
      refine blk_core ?_ (lab_ge (Nat.le_refl _))
      rw [blk_alloc, if_pos rfl]
    · rw [List.mem_singleton] at hit
      subst hit
      show args.length ≤ 4
      rw [HAL.out]; exact hn
  have hb3 := HK3'.out.1
  have HGR : Hid (HC O W bs b4 (lab O2 V2.heap.size .no) (V2.alloc (.cells IE.toArray 67)) g s CS (some ⟨bi, 0, none⟩) ia iN ic ∧ blk (V2.alloc (.cells IE.toArray 67)) b3 = some IE ∧ lab O2 V2.heap.size .no b3 = .a 9 9 ∧ Rw encS 1 (core (lab O2 V2.heap.size .no) (V2.alloc (.cells IE.toArray 67))) aa n args) := by
    have hxa : V2.Extends (V2.alloc (.cells IE.toArray 67)) := extends_alloc (ext_Ext (Ext.refl _)) _
    exact ⟨HH2.out.grow hxa .no, (hxa.blk (blk_lt HK3'.out.1)).trans HK3'.out.1, (lab_lt (blk_lt HK3'.out.1)).trans HK3'.out.2, HA2.out.sub (Sub.ext (core_new hxa _))⟩
  clear hpr HCD
  go_wp2_with fail
  refine HMK.out.mono ?_
  rintro e V4 ⟨mc, t1, co, O4, g4, rfl, hMr, hK4, ⟨CS4, ip4, ia4, iN4, ic4, hS4⟩, hfr4⟩
  dsimp only
  have hH4 := HGR.out.1.room hK4 hS4
  obtain ⟨k1, k2⟩ := hK4.keep b3 (blk_lt HGR.out.2.1) (by rw [HGR.out.2.2.1]; exact kept_99)
  have hk3 : blk V4 b3 = some IE := (blk_of_heap k2).trans HGR.out.2.1
  have ho3 : O4 b3 = .a 9 9 := k1.trans HGR.out.2.2.1
  have hA4 : Rw encS 1 (core O4 V4) aa n args := HGR.out.2.2.2.sub hK4.sub
  have HH4 := hid_of hH4
  have HK4 : Hid (blk V4 b3 = some IE ∧ O4 b3 = .a 9 9) := ⟨hk3, ho3⟩
  have HA4 := hid_of hA4
  have HMR := hid_of hMr
  clear HMK HGR hK4 hS4 hfr4 hH4 k1 k2 hk3 ho3 hA4 hMr hb3 HH1 HH2 HF1 HO3 HFR1 HFR2 HA2 HK3' HK3 HSS HX2 c0 l0 HFREE
  by_cases hc1 : mc = 0
  rotate_left 1
  · have hrf := refuse_any V4 2 mc
    have HRP : Hid (∀ V, V4.Extends V → Q (.returned (.agg (Reply.enc (repZ mc 2 (-1))).toArray)) (put V b4 (Reply.enc (repZ mc 2 (-1))))) := fun V hx => by
      rw [HQ.out]
      exact (HH4.out.ext hx).fin (.inr ⟨HCU.out, mc, t1, co, HMR.out, .inl ⟨hc1, rfl, rfl⟩⟩)
    have HB4 : Hid (blk V4 b4 = some Reply.zero.enc ∧ free V4 b4 = true) := ⟨HH4.out.rc, HH4.out.rf⟩
    have rl := Reply.length_enc (repZ mc 2 (-1))
    have ro := Reply.ok_enc (repZ mc 2 (-1))
    have rs := Reply.all_set Reply.zero (repZ mc 2 (-1))
    obtain ⟨RE, hRE⟩ : ∃ RE, RE = Reply.enc (repZ mc 2 (-1)) := ⟨_, rfl⟩
    rw [← hRE] at hrf HRP rl ro rs
    clear hRE
    have hcb : (mc != 0) = true := by simp [hc1]
    clear hc1
    go_wp2_with fail
    refine hrf.mono ?_
    rintro e Vr ⟨rfl, hxr⟩
    have hb4 := (hxr.blk (blk_lt HB4.out.1)).trans HB4.out.1
    have hf4 := (free_of_heap (hxr.block b4 (blk_lt HB4.out.1))).trans HB4.out.2
    have HP := hid_of (HRP.out Vr hxr)
    clear hrf hxr HRP
    dsimp only
    go_wp2_with fail
    refine ret_cell (C := RE) rfl rfl ?_ (by kernel_rfl) (by rw [rl]; kernel_rfl) rfl HP.out
    first | (rw [blk_put, if_pos rfl, hb4]; rfl) | (simp only [blk_put, if_true, hb4, Option.map_some]; try rfl)
  subst hc1
  have hok1 := HNX.out 0 t1 co HCU.out HMR.out
  have HOK1 := hid_of hok1
  have hgl4 : g4 < 2 := HH4.out.sv.gl
  obtain ⟨B4, bi4, eip4, hB4, hI4⟩ := HH4.out.sv.ins t1 rfl
  subst eip4
  have HI4 := hid_of hI4
  have HB4s := hid_of hB4
  have c0 := HH4.out.sv.c.c0
  have l0 : 0 < CS4.length := by rw [HH4.out.sv.c.len]; omega
  obtain ⟨cd2, hcd2⟩ : ∃ cd2, cd2 = (intF t1.N args).1 := ⟨_, rfl⟩
  obtain ⟨TT, hTT⟩ : ∃ TT, TT = (intF t1.N args).2.1 := ⟨_, rfl⟩
  have HINT : Hid (∀ Ox V, HC O W bs b4 Ox V g4 (s.roomy t1 co) CS4 (some ⟨bi4, 0, none⟩) ia4 iN4 ic4 → Rw encS 1 (core Ox V) aa n args → V4.heap.size ≤ V.heap.size → InsAt B4 Ox V g4 bi4 t1 → Calls Tryz.prog 133 #[.pointer (some ⟨bi4, 0, none⟩), .slice aa n ac] V fun e V' => e = .returned (.tuple #[.agg (arr i64v TT).toArray, .int .i64 cd2]) ∧ ∃ O', Fr (isS g4) Ox V O' V' ∧ InsAt B4 O' V' g4 bi4 (t1.tab (intF t1.N args).2.2)) := fun Ox V h1 h2 h3 h4 => by
    refine (internI_any h4 (Nat.le_trans HB4s.out h3) HOK1.out.1.nl aa n ac args h2 hn).mono ?_
    intro e V' hp
    obtain ⟨O', e1, e2, e3⟩ := intPost_X hp
    rw [hcd2, hTT]
    exact ⟨e1, O', e2, e3⟩
  have HCD2 := hid_of hcd2
  have HTT := hid_of hTT
  have hk3 := HK4.out.1
  have hSd : blk V4.drew bs = some CS4 ∧ blk V4.drew b3 = some IE := ⟨HH4.out.sv.cell, hk3⟩
  have HSS : Hid (∀ Ox V, Fr (isS g4) O4 V4 Ox V → blk V bs = some CS4 ∧ blk V b3 = some IE) := fun Ox V hF => by
    have n3 : ¬ isS g4 (O4 b3) := by rw [HK4.out.2]; exact isS_99 hgl4
    have ns : ¬ isS g4 (O4 bs) := by rw [HH4.out.sv.own]; exact fun e => isI_0 g4 (isI_S e)
    exact ⟨hF.blk HH4.out.sv.cell ns, hF.blk HK4.out.1 n3⟩
  obtain ⟨R7, hR7⟩ : ∃ R7 : Act → Act → World → Prop, R7 = fun a0 a' w' => ∃ (b6 : Nat) (f : Nat → Value), a' = ⟨frameN 65 f, []⟩ ∧ f 0 = .pointer (some ⟨bs, 0, none⟩) ∧ f 3 = .pointer (some ⟨b3, 0, none⟩) ∧ f 4 = .pointer (some ⟨b4, 0, none⟩) ∧ f 5 = .int .i64 cd2 ∧ f 6 = .pointer (some ⟨b6, 0, none⟩) ∧ Hid (∃ O5, Fr (isS g4) O4 V4 O5 w' ∧ InsAt B4 O5 w' g4 bi4 (t1.tab (intF t1.N args).2.2) ∧ blk w' b6 = some (arr i64v TT) ∧ O5 b6 = .a 9 9) := ⟨_, rfl⟩
  have HR7 := hid_of hR7
  clear hR7 hTT hcd2 hI4 hB4 hok1 hk3
  go_upto_region 7 with fail
  refine wp_cutR R7 ?_ ?_
  · rw [HR7.out]
    clear HR7
    refine wp_region_held_drew (S := fun W' => blk W' bs = some CS4 ∧ blk W' b3 = some IE) (by kernel_rfl) hSd (fun hHeld => ?_)
    refine wpAnyH_take (i := 0) (oi := ⟨_, _, _, _, _, _⟩) (v := ?_) rfl (by kernel_rfl) (by kernel_rfl) (by kernel_rfl) (fun _ _ _ h => nomatch h.1) (Or.inl ⟨by rfl, ?_⟩) (by assumption) ?_
    rotate_left 1
    · intro W' hSw
      obtain ⟨hS1, hS2⟩ := hSw
      go_simp
      try with_reducible rfl
    try simp only [Act.put, List.setIfInBounds_toArray, List.set_cons_zero, List.set_cons_succ]
    refine wpAnyH_take (i := 1) (oi := ⟨_, _, _, _, _, _⟩) (v := ?_) rfl (by kernel_rfl) (by kernel_rfl) (by kernel_rfl) (fun _ _ _ h => nomatch h.1) (Or.inl ⟨by rfl, ?_⟩) (by assumption) ?_
    rotate_left 1
    · intro W' hSw
      obtain ⟨hS1, hS2⟩ := hSw
      go_simp
      try with_reducible rfl
    try simp only [Act.put, List.setIfInBounds_toArray, List.set_cons_zero, List.set_cons_succ]
    refine wpAnyH_take (i := 2) (oi := ⟨_, _, _, _, _, _⟩) (v := ?_) rfl (by kernel_rfl) (by kernel_rfl) (by kernel_rfl) (fun _ _ _ h => nomatch h.1) (Or.inl ⟨by rfl, ?_⟩) (by assumption) ?_
    rotate_left 1
    · intro W' hSw
      obtain ⟨hS1, hS2⟩ := hSw
      go_simp
      try with_reducible rfl
    try simp only [Act.put, List.setIfInBounds_toArray, List.set_cons_zero, List.set_cons_succ]
    refine wpAnyH_take (i := 3) (oi := ⟨_, _, _, _, _, _⟩) (v := ?_) rfl (by kernel_rfl) (by kernel_rfl) (by kernel_rfl) (fun _ _ _ h => nomatch h.1) (Or.inl ⟨by rfl, ?_⟩) (by assumption) ?_
    rotate_left 1
    · intro W' hSw
      obtain ⟨hS1, hS2⟩ := hSw
      go_simp
      try with_reducible rfl
    try simp only [Act.put, List.setIfInBounds_toArray, List.set_cons_zero, List.set_cons_succ]
    refine wpAnyH_take (i := 4) (oi := ⟨_, _, _, _, _, _⟩) (v := ?_) rfl (by kernel_rfl) (by kernel_rfl) (by kernel_rfl) (fun _ _ _ h => nomatch h.1) (Or.inl ⟨by rfl, ?_⟩) (by assumption) ?_
    rotate_left 1
    · intro W' hSw
      obtain ⟨hS1, hS2⟩ := hSw
      go_simp
      try with_reducible rfl
    try simp only [Act.put, List.setIfInBounds_toArray, List.set_cons_zero, List.set_cons_succ]
    refine wpAnyH_take (i := 5) (oi := ⟨_, _, _, _, _, _⟩) (v := ?_) rfl (by kernel_rfl) (by kernel_rfl) (by kernel_rfl) (fun _ _ _ h => nomatch h.1) (Or.inl ⟨by rfl, ?_⟩) (by assumption) ?_
    rotate_left 1
    · intro W' hSw
      obtain ⟨hS1, hS2⟩ := hSw
      go_simp
      try with_reducible rfl
    try simp only [Act.put, List.setIfInBounds_toArray, List.set_cons_zero, List.set_cons_succ]
    refine wpAnyH_ready (rs := [6, 10]) (by kernel_rfl) (by simp) ?_
    refine AllReadyH.cons (o := ⟨_, _, _, _, _, _⟩) rfl (fun K' hK => ?_) (AllReadyH.cons (o := ⟨_, _, _, _, _, _⟩) rfl (fun K' hK => ?_) AllReadyH.nil)
    · go_simp
      refine (HINT.out O4 V4.drew (HH4.out.ext (extd V4)) (HA4.out.sub (Sub.ext (core_ext (extd V4)))) (Nat.le_refl _) (HI4.out.ext (extd V4))).mono ?_
      rintro en V5 ⟨rfl, O5, hF5, hI5⟩
      dsimp only
      have hF45 : Fr (isS g4) O4 V4 O5 V5 := (Fr.of_extends (L := isS g4) (extd V4)).trans hF5
      have hS5 := HSS.out _ _ hF45
      have HF45 := hid_of hF45
      have HI5 := hid_of hI5
      have HSA : Hid (∀ X, blk (V5.alloc X) bs = some CS4 ∧ blk (V5.alloc X) b3 = some IE) := fun X => HSS.out _ _ (HF45.out.trans (Fr.of_extends (extends_alloc (ext_Ext (Ext.refl _)) X)))
      clear hF5 hI5 hF45
      refine hK.out _ _ hS5 (fun hHeld => ?_)
      clear hK K'
      try simp only [Act.put, List.setIfInBounds_toArray, List.set_cons_zero, List.set_cons_succ]
      refine wpAnyH_take (i := 7) (oi := ⟨_, _, _, _, _, _⟩) (v := ?_) rfl (by kernel_rfl) (by kernel_rfl) (by kernel_rfl) (fun _ _ _ h => nomatch h.1) (Or.inl ⟨by rfl, ?_⟩) (by assumption) ?_
      rotate_left 1
      · intro W' hSw
        obtain ⟨hS1, hS2⟩ := hSw
        go_simp
        try with_reducible rfl
      try simp only [Act.put, List.setIfInBounds_toArray, List.set_cons_zero, List.set_cons_succ]
      refine wpAnyH_take (i := 8) (oi := ⟨_, _, _, _, _, _⟩) (v := ?_) rfl (by kernel_rfl) (by kernel_rfl) (by kernel_rfl) (fun _ _ _ h => nomatch h.1) (Or.inl ⟨by rfl, ?_⟩) (by assumption) ?_
      rotate_left 1
      · intro W' hSw
        obtain ⟨hS1, hS2⟩ := hSw
        go_simp
        try with_reducible rfl
      try simp only [Act.put, List.setIfInBounds_toArray, List.set_cons_zero, List.set_cons_succ]
      refine wpAnyH_take (i := 9) (oi := ⟨_, _, _, _, _, _⟩) (v := ?_) rfl (by kernel_rfl) (by kernel_rfl) (by kernel_rfl) (fun _ _ _ h => nomatch h.1) (Or.inl ⟨by rfl, ?_⟩) (by assumption) ?_
      rotate_left 1
      · intro W' hSw
        obtain ⟨hS1, hS2⟩ := hSw
        go_simp
        try with_reducible rfl
      try simp only [Act.put, List.setIfInBounds_toArray, List.set_cons_zero, List.set_cons_succ]
      refine wpAnyH_ready (rs := [10]) (by kernel_rfl) (by simp) ?_
      refine AllReadyH.cons (o := ⟨_, _, _, _, _, _⟩) rfl (fun K' hK => ?_) AllReadyH.nil
      go_simp
      refine hK.out _ _ (HSA.out _) (fun hHeld => ?_)
      clear hK K'
      try simp only [Act.put, List.setIfInBounds_toArray, List.set_cons_zero, List.set_cons_succ]
      refine wpAnyH_ready (rs := [11]) (by kernel_rfl) (by simp) ?_
      refine AllReadyH.cons (o := ⟨_, _, _, _, _, _⟩) rfl (fun K' hK => ?_) AllReadyH.nil
      go_simp
      refine hK.out _ _ (HSA.out _) (fun hHeld => ?_)
      clear hK K'
      try simp only [Act.put, List.setIfInBounds_toArray, List.set_cons_zero, List.set_cons_succ]
      refine wpAnyH_take (i := 12) (oi := ⟨_, _, _, _, _, _⟩) (v := ?_) rfl (by kernel_rfl) (by kernel_rfl) (by kernel_rfl) (fun _ _ _ h => nomatch h.1) (Or.inl ⟨by rfl, ?_⟩) (by assumption) ?_
      rotate_left 1
      · intro W' hSw
        obtain ⟨hS1, hS2⟩ := hSw
        go_simp
        try with_reducible rfl
      try simp only [Act.put, List.setIfInBounds_toArray, List.set_cons_zero, List.set_cons_succ]
      refine wpAnyH_done (by kernel_rfl) ?_ _
      refine ⟨rfl, V5.heap.size, cut_intro _ rfl ⟨rfl, rfl, rfl, rfl, rfl, ?_⟩⟩
      have hxa : ∀ X, V5.Extends (V5.alloc X) := fun X => extends_alloc (ext_Ext (Ext.refl _)) X
      refine ⟨lab O5 V5.heap.size (.a 9 9), HF45.out.trans ⟨(hxa _).os, (hxa _).tape, (hxa _).output, (hxa _).size, fun k hk => lab_lt hk, fun k hk _ => (hxa _).block k hk⟩, ?_, by rw [blk_alloc, if_pos rfl], lab_ge (Nat.le_refl _)⟩
      exact HI5.out.fr (L := fun _ => False) ⟨(hxa _).os, (hxa _).tape, (hxa _).output, (hxa _).size, fun k hk => lab_lt hk, fun k hk _ => (hxa _).block k hk⟩ (fun _ _ e => e) (fun e => e)
    · go_simp
      first | rw [show (V4.alloc (.cells (arr i64v (Vector.replicate 4 (0 : Int))).toArray 214)).drew = V4.drew.alloc (.cells (arr i64v (Vector.replicate 4 (0 : Int))).toArray 214) from rfl] | rw [show (V4.alloc (.cells (arr i64v (Vector.replicate 4 (0 : Int))).toArray 214)).drewN 1 = V4.drew.alloc (.cells (arr i64v (Vector.replicate 4 (0 : Int))).toArray 214) from rfl] | skip
      have hxa : V4.Extends (V4.drew.alloc (.cells (arr i64v (Vector.replicate 4 (0 : Int))).toArray 214)) := (extd V4).trans (extends_alloc (ext_Ext (Ext.refl _)) _)
      have hFa : Fr (fun _ => False) O4 V4 (lab O4 V4.heap.size (.a 9 9)) (V4.drew.alloc (.cells (arr i64v (Vector.replicate 4 (0 : Int))).toArray 214)) := ⟨hxa.os, hxa.tape, hxa.output, hxa.size, fun k hk => lab_lt hk, fun k hk _ => hxa.block k hk⟩
      have hba : blk (V4.drew.alloc (.cells (arr i64v (Vector.replicate 4 (0 : Int))).toArray 214)) V4.heap.size = some (arr i64v (Vector.replicate 4 (0 : Int))) := by rw [blk_alloc, if_pos (show V4.heap.size = V4.drew.heap.size from rfl)]
      have hfa : free (V4.drew.alloc (.cells (arr i64v (Vector.replicate 4 (0 : Int))).toArray 214)) V4.heap.size = true := by rw [free_alloc, if_pos (show V4.heap.size = V4.drew.heap.size from rfl)]
      have HFA := hid_of hFa
      have HBA : Hid (blk (V4.drew.alloc (.cells (arr i64v (Vector.replicate 4 (0 : Int))).toArray 214)) V4.heap.size = some (arr i64v (Vector.replicate 4 (0 : Int))) ∧ free (V4.drew.alloc (.cells (arr i64v (Vector.replicate 4 (0 : Int))).toArray 214)) V4.heap.size = true) := ⟨hba, hfa⟩
      have hIN := HINT.out (lab O4 V4.heap.size (.a 9 9)) (V4.drew.alloc (.cells (arr i64v (Vector.replicate 4 (0 : Int))).toArray 214)) (HH4.out.grow hxa _) (HA4.out.sub (Sub.ext (core_new hxa _))) hxa.size (HI4.out.fr hFa (fun _ _ e => e) (fun e => e))
      have hSa := HSS.out _ _ (hFa.mono (fun _ e => e.elim))
      have n3s : ¬ b3 = V4.heap.size := by have := blk_lt HK4.out.1; omega
      have nss : ¬ bs = V4.heap.size := by have := blk_lt HH4.out.sv.cell; omega
      clear hxa hFa hba hfa
      refine hK.out _ _ hSa (fun hHeld => ?_)
      clear hK K'
      try simp only [Act.put, List.setIfInBounds_toArray, List.set_cons_zero, List.set_cons_succ]
      refine wpAnyH_ready (rs := [6]) (by kernel_rfl) (by simp) ?_
      refine AllReadyH.cons (o := ⟨_, _, _, _, _, _⟩) rfl (fun K' hK => ?_) AllReadyH.nil
      go_simp
      refine hIN.mono ?_
      rintro en V5 ⟨rfl, O5, hF5, hI5⟩
      dsimp only
      have hF45 : Fr (isS g4) O4 V4 O5 V5 := (HFA.out.mono (fun _ e => e.elim)).trans hF5
      have h9 : lab O4 V4.heap.size (.a 9 9) V4.heap.size = .a 9 9 := lab_ge (Nat.le_refl _)
      have n9 : ¬ isS g4 (lab O4 V4.heap.size (.a 9 9) V4.heap.size) := by rw [h9]; exact isS_99 hgl4
      have hbz : blk V5 V4.heap.size = some (arr i64v (Vector.replicate 4 (0 : Int))) := hF5.blk HBA.out.1 n9
      have hfz : free V5 V4.heap.size = true := hF5.free HBA.out.1 HBA.out.2 n9
      have ho6 : O5 V4.heap.size = .a 9 9 := (hF5.keep _ (blk_lt HBA.out.1)).trans h9
      have hS5 := HSS.out _ _ hF45
      have HF45 := hid_of hF45
      have HI5 := hid_of hI5
      have HO6 := hid_of ho6
      have HSB : Hid (∀ C, blk (put V5 V4.heap.size C) bs = some CS4 ∧ blk (put V5 V4.heap.size C) b3 = some IE) := fun C => ⟨by rw [blk_put, if_neg nss]; exact (HSS.out _ _ HF45.out).1, by rw [blk_put, if_neg n3s]; exact (HSS.out _ _ HF45.out).2⟩
      clear hF5 hI5 hF45 h9 n9 ho6 hIN hSa
      refine hK.out _ _ hS5 (fun hHeld => ?_)
      clear hK K'
      try simp only [Act.put, List.setIfInBounds_toArray, List.set_cons_zero, List.set_cons_succ]
      refine wpAnyH_take (i := 7) (oi := ⟨_, _, _, _, _, _⟩) (v := ?_) rfl (by kernel_rfl) (by kernel_rfl) (by kernel_rfl) (fun _ _ _ h => nomatch h.1) (Or.inl ⟨by rfl, ?_⟩) (by assumption) ?_
      rotate_left 1
      · intro W' hSw
        obtain ⟨hS1, hS2⟩ := hSw
        go_simp
        try with_reducible rfl
      try simp only [Act.put, List.setIfInBounds_toArray, List.set_cons_zero, List.set_cons_succ]
      refine wpAnyH_take (i := 8) (oi := ⟨_, _, _, _, _, _⟩) (v := ?_) rfl (by kernel_rfl) (by kernel_rfl) (by kernel_rfl) (fun _ _ _ h => nomatch h.1) (Or.inl ⟨by rfl, ?_⟩) (by assumption) ?_
      rotate_left 1
      · intro W' hSw
        obtain ⟨hS1, hS2⟩ := hSw
        go_simp
        try with_reducible rfl
      try simp only [Act.put, List.setIfInBounds_toArray, List.set_cons_zero, List.set_cons_succ]
      refine wpAnyH_take (i := 9) (oi := ⟨_, _, _, _, _, _⟩) (v := ?_) rfl (by kernel_rfl) (by kernel_rfl) (by kernel_rfl) (fun _ _ _ h => nomatch h.1) (Or.inl ⟨by rfl, ?_⟩) (by assumption) ?_
      rotate_left 1
      · intro W' hSw
        obtain ⟨hS1, hS2⟩ := hSw
        go_simp
        try with_reducible rfl
      try simp only [Act.put, List.setIfInBounds_toArray, List.set_cons_zero, List.set_cons_succ]
      refine wpAnyH_ready (rs := [11]) (by kernel_rfl) (by simp) ?_
      refine AllReadyH.cons (o := ⟨_, _, _, _, _, _⟩) rfl (fun K' hK => ?_) AllReadyH.nil
      go_simp
      refine hK.out _ _ (HSB.out _) (fun hHeld => ?_)
      clear hK K'
      try simp only [Act.put, List.setIfInBounds_toArray, List.set_cons_zero, List.set_cons_succ]
      refine wpAnyH_take (i := 12) (oi := ⟨_, _, _, _, _, _⟩) (v := ?_) rfl (by kernel_rfl) (by kernel_rfl) (by kernel_rfl) (fun _ _ _ h => nomatch h.1) (Or.inl ⟨by rfl, ?_⟩) (by assumption) ?_
      rotate_left 1
      · intro W' hSw
        obtain ⟨hS1, hS2⟩ := hSw
        go_simp
        try with_reducible rfl
      try simp only [Act.put, List.setIfInBounds_toArray, List.set_cons_zero, List.set_cons_succ]
      refine wpAnyH_done (by kernel_rfl) ?_ _
      refine ⟨rfl, V4.heap.size, cut_intro _ rfl ⟨rfl, rfl, rfl, rfl, rfl, ?_⟩⟩
      refine ⟨O5, HF45.out.put_new (Nat.le_refl _) _, ?_, by rw [blk_put, if_pos rfl, hbz]; rfl, HO6.out⟩
      have hFp : Fr (fun l => l = .a 9 9) O5 V5 O5 (put V5 V4.heap.size (arr i64v TT)) := (Fr.refl _ _ _).put (L := fun l => l = .a 9 9) HO6.out _
      exact HI5.out.fr hFp (fun l hl e => isI_99 hgl4 (e ▸ hl)) (fun e => by cases e)
  rw [HR7.out]
  rintro _ V5 ⟨b6, f5, rfl, f0, f3, f4', f5', f6, H5⟩
  rw [frame65i, f0, f3, f4', f5', f6]
  clear f0 f3 f4' f5' f6 hSd
  obtain ⟨O5, hF5, hI5, hk6, ho6⟩ := H5.out
  have hS5 : SvM O5 V5 bs g4 (s.roomy (t1.tab (intF t1.N args).2.2) co) CS4 (some ⟨bi4, 0, none⟩) ia4 iN4 ic4 := HH4.out.sv.swap (hF5.mono (fun _ e => isI_S e)) (Nat.le_trans HB4s.out hF5.size) hI5
  have hH5 := HH4.out.fr (fr_VS hF5) hS5
  have hk3 : blk V5 b3 = some IE := (HSS.out _ _ hF5).2
  have ho3 : O5 b3 = .a 9 9 := (hF5.keep b3 (blk_lt HK4.out.1)).trans HK4.out.2
  have HH5 := hid_of hH5
  have HK5 : Hid ((blk V5 b3 = some IE ∧ O5 b3 = .a 9 9) ∧ blk V5 b6 = some (arr i64v TT) ∧ O5 b6 = .a 9 9) := ⟨⟨hk3, ho3⟩, hk6, ho6⟩
  have HB5 : Hid (B4 ≤ V5.heap.size) := Nat.le_trans HB4s.out hF5.size
  clear H5 hF5 hI5 hk6 ho6 hS5 hH5 hk3 ho3 HH4 HK4 HI4 HSS HA4 HINT c0 l0
  by_cases hc2 : cd2 = 0
  rotate_left 1
  · have hrf := refuse_any V5 2 17
    have HRP : Hid (∀ V, V5.Extends V → Q (.returned (.agg (Reply.enc (repZ 17 2 (-1))).toArray)) (put V b4 (Reply.enc (repZ 17 2 (-1))))) := fun V hx => by
      rw [HQ.out]
      exact (HH5.out.ext hx).fin (.inr ⟨HCU.out, 0, t1, co, HMR.out, .inr ⟨rfl, .inl ⟨by rw [← HCD2.out]; exact hc2, rfl, rfl⟩⟩⟩)
    have HB4 : Hid (blk V5 b4 = some Reply.zero.enc ∧ free V5 b4 = true) := ⟨HH5.out.rc, HH5.out.rf⟩
    have rl := Reply.length_enc (repZ 17 2 (-1))
    have ro := Reply.ok_enc (repZ 17 2 (-1))
    have rs := Reply.all_set Reply.zero (repZ 17 2 (-1))
    obtain ⟨RE, hRE⟩ : ∃ RE, RE = Reply.enc (repZ 17 2 (-1)) := ⟨_, rfl⟩
    rw [← hRE] at hrf HRP rl ro rs
    clear hRE
    have hcb : (cd2 != 0) = true := by simp [hc2]
    clear hc2
    go_wp2_with fail
    refine hrf.mono ?_
    rintro e Vr ⟨rfl, hxr⟩
    have hb4 := (hxr.blk (blk_lt HB4.out.1)).trans HB4.out.1
    have hf4 := (free_of_heap (hxr.block b4 (blk_lt HB4.out.1))).trans HB4.out.2
    have HP := hid_of (HRP.out Vr hxr)
    clear hrf hxr HRP
    dsimp only
    go_wp2_with fail
    refine ret_cell (C := RE) rfl rfl ?_ (by kernel_rfl) (by rw [rl]; kernel_rfl) rfl HP.out
    first | (rw [blk_put, if_pos rfl, hb4]; rfl) | (simp only [blk_put, if_true, hb4, Option.map_some]; try rfl)
  have HC2 : Hid ((intF t1.N args).1 = 0) := by show _ = _; rw [← HCD2.out]; exact hc2
  subst hc2
  have hlow := lower_any HH5.out.sv.cell HH5.out.sv.fre HH5.out.sv.c.len HH5.out.sv.c.c3 hcl.1 (by show s.calls ≤ 1000; omega) 2
  have nb3 : b3 ≠ bs := HH5.out.ns (by rw [HK5.out.1.2]; exact fun e => by cases e)
  have nb6 : b6 ≠ bs := HH5.out.ns (by rw [HK5.out.2.2]; exact fun e => by cases e)
  go_wp2_with fail
  refine hlow.mono ?_
  rintro e V6 ⟨rfl, hOn⟩
  dsimp only
  obtain ⟨hFl, hH6⟩ := HH5.out.low 2 hOn
  have k3 : blk V6 b3 = some IE := (blk_of_heap (hOn.heap b3 nb3)).trans HK5.out.1.1
  have k6 : blk V6 b6 = some (arr i64v TT) := (blk_of_heap (hOn.heap b6 nb6)).trans HK5.out.2.1
  obtain ⟨CS6, hCS6⟩ : ∃ CS6, CS6 = splice (splice CS4 2 [.int .i64 2]) 3 [.int .i64 ((s.roomy (t1.tab (intF t1.N args).2.2) co).calls + 1)] := ⟨_, rfl⟩
  rw [← hCS6] at hH6
  obtain ⟨B6, bi6, eip, hB6, hI6⟩ := hH6.sv.ins _ rfl
  have ebi : bi4 = bi6 := congrArg Addr.block (Option.some.inj eip)
  subst ebi
  have HH6 : Hid (HC O W bs b4 O5 V6 g4 ((s.roomy t1 co).low (t1.tab (intF t1.N args).2.2) 2) CS6 (some ⟨bi4, 0, none⟩) ia4 iN4 ic4) := hH6
  have HK6 : Hid ((blk V6 b3 = some IE ∧ O5 b3 = .a 9 9) ∧ blk V6 b6 = some (arr i64v TT) ∧ O5 b6 = .a 9 9) := ⟨⟨k3, HK5.out.1.2⟩, k6, HK5.out.2.2⟩
  have HSTB : Hid (∀ O' V, Fr (isI g4) O5 V6 O' V → blk V bs = some CS6 ∧ blk V b3 = some IE ∧ blk V b6 = some (arr i64v TT)) := fun O' V hF => by
    have n3 : ¬ isI g4 (O5 b3) := by rw [HK5.out.1.2]; exact isI_99 hgl4
    have n6 : ¬ isI g4 (O5 b6) := by rw [HK5.out.2.2]; exact isI_99 hgl4
    have ns : ¬ isI g4 (O5 bs) := by rw [hH6.sv.own]; exact isI_0 g4
    exact ⟨hF.blk hH6.sv.cell ns, hF.blk k3 n3, hF.blk k6 n6⟩
  have d0 := hH6.sv.c.c0
  have d0l : 0 < CS6.length := by rw [hH6.sv.c.len]; omega
  obtain ⟨CI, bst, be, A, hm6⟩ := hI6
  have ci5 := hm6.ic.c5
  have cil : 5 < CI.length := by rw [hm6.ic.len]; omega
  have hlb : (arr i64v TT).length = 4 := length_arr _ _
  have sgT : seg (arr i64v TT) 0 4 = arr i64v TT := seg_all _ _ hlb
  have hTok : TOk TT := by
    have e9 := HC2.out
    rw [HTT.out]
    unfold intF at e9 ⊢
    dsimp only at e9 ⊢
    rw [if_pos e9]
    exact nmT_ok HOK1.out.1.nl (by rw [HAL.out]; exact hn) (intCode_all e9)
  have hpr1 : pr < t1.p.preds.length := by rw [HOK1.out.2.2]; exact HPR.out
  have hed := einsert_any (W := V6.drew) (hm6.ext (extd V6)).eng hm6.ego ((ProgL.c hm6.progL).ext (extd V6)) HOK1.out.1.pok (hm6.ext (extd V6)).st HOK1.out.1.inv HOK1.out.1.cap pr TT ⟨by show (0 : Int) ≤ (pr : Int); omega, by show ((pr : Int)).toNat < t1.p.preds.length; have := hpr1; omega, (fun _ => hTok)⟩
  have hSd : (blk V6.drew bs = some CS6 ∧ blk V6.drew bi4 = some CI) ∧ blk V6.drew b3 = some IE ∧ blk V6.drew b6 = some (arr i64v TT) := ⟨⟨hH6.sv.cell, hm6.cell⟩, k3, k6⟩
  have HMI := hid_of hm6
  have HB6 := hid_of hB6
  have HTOK := hid_of hTok
  have HPR1 := hid_of hpr1
  clear hlow hOn hFl hH6 k3 k6 hCS6 HH5 HK5 hB6 hm6 eip hTok hpr1
  go_upto_region 11 with fail
  refine wp_region_held_drew (S := fun W' => (blk W' bs = some CS6 ∧ blk W' bi4 = some CI) ∧ blk W' b3 = some IE ∧ blk W' b6 = some (arr i64v TT)) (by kernel_rfl) hSd (fun hHeld => ?_)
  refine wpAnyH_take (i := 0) (oi := ⟨_, _, _, _, _, _⟩) (v := ?_) rfl (by kernel_rfl) (by kernel_rfl) (by kernel_rfl) (fun _ _ _ h => h) (Or.inl ⟨by rfl, ?_⟩) (by assumption) ?_
  rotate_left 1
  · intro W' hSw
    obtain ⟨⟨hS1, hS2⟩, hS3, hS4⟩ := hSw
    go_simp
    try with_reducible rfl
  try simp only [Act.put, List.setIfInBounds_toArray, List.set_cons_zero, List.set_cons_succ]
  refine wpAnyH_take (i := 1) (oi := ⟨_, _, _, _, _, _⟩) (v := ?_) rfl (by kernel_rfl) (by kernel_rfl) (by kernel_rfl) (fun _ _ _ h => h) (Or.inl ⟨by rfl, ?_⟩) (by assumption) ?_
  rotate_left 1
  · intro W' hSw
    obtain ⟨⟨hS1, hS2⟩, hS3, hS4⟩ := hSw
    go_simp
    try with_reducible rfl
  try simp only [Act.put, List.setIfInBounds_toArray, List.set_cons_zero, List.set_cons_succ]
  refine wpAnyH_take (i := 2) (oi := ⟨_, _, _, _, _, _⟩) (v := ?_) rfl (by kernel_rfl) (by kernel_rfl) (by kernel_rfl) (fun _ _ _ h => h) (Or.inl ⟨by rfl, ?_⟩) (by assumption) ?_
  rotate_left 1
  · intro W' hSw
    obtain ⟨⟨hS1, hS2⟩, hS3, hS4⟩ := hSw
    go_simp
    try with_reducible rfl
  try simp only [Act.put, List.setIfInBounds_toArray, List.set_cons_zero, List.set_cons_succ]
  refine wpAnyH_take (i := 3) (oi := ⟨_, _, _, _, _, _⟩) (v := ?_) rfl (by kernel_rfl) (by kernel_rfl) (by kernel_rfl) (fun _ _ _ h => h) (Or.inl ⟨by rfl, ?_⟩) (by assumption) ?_
  rotate_left 1
  · intro W' hSw
    obtain ⟨⟨hS1, hS2⟩, hS3, hS4⟩ := hSw
    go_simp
    try with_reducible rfl
  try simp only [Act.put, List.setIfInBounds_toArray, List.set_cons_zero, List.set_cons_succ]
  refine wpAnyH_take (i := 4) (oi := ⟨_, _, _, _, _, _⟩) (v := ?_) rfl (by kernel_rfl) (by kernel_rfl) (by kernel_rfl) (fun _ _ _ h => h) (Or.inl ⟨by rfl, ?_⟩) (by assumption) ?_
  rotate_left 1
  · intro W' hSw
    obtain ⟨⟨hS1, hS2⟩, hS3, hS4⟩ := hSw
    go_simp
    try with_reducible rfl
  try simp only [Act.put, List.setIfInBounds_toArray, List.set_cons_zero, List.set_cons_succ]
  refine wpAnyH_take (i := 5) (oi := ⟨_, _, _, _, _, _⟩) (v := ?_) rfl (by kernel_rfl) (by kernel_rfl) (by kernel_rfl) (fun _ _ _ h => h) (Or.inl ⟨by rfl, ?_⟩) (by assumption) ?_
  rotate_left 1
  · intro W' hSw
    obtain ⟨⟨hS1, hS2⟩, hS3, hS4⟩ := hSw
    go_simp
    try with_reducible rfl
  try simp only [Act.put, List.setIfInBounds_toArray, List.set_cons_zero, List.set_cons_succ]
  refine wpAnyH_take (i := 6) (oi := ⟨_, _, _, _, _, _⟩) (v := ?_) rfl (by kernel_rfl) (by kernel_rfl) (by kernel_rfl) (fun _ _ _ h => h) (Or.inl ⟨by rfl, ?_⟩) (by assumption) ?_
  rotate_left 1
  · intro W' hSw
    obtain ⟨⟨hS1, hS2⟩, hS3, hS4⟩ := hSw
    go_simp
    try with_reducible rfl
  try simp only [Act.put, List.setIfInBounds_toArray, List.set_cons_zero, List.set_cons_succ]
  refine wpAnyH_take (i := 7) (oi := ⟨_, _, _, _, _, _⟩) (v := ?_) rfl (by kernel_rfl) (by kernel_rfl) (by kernel_rfl) (fun _ _ _ h => h) (Or.inl ⟨by rfl, ?_⟩) (by assumption) ?_
  rotate_left 1
  · intro W' hSw
    obtain ⟨⟨hS1, hS2⟩, hS3, hS4⟩ := hSw
    go_simp
    try with_reducible rfl
  try simp only [Act.put, List.setIfInBounds_toArray, List.set_cons_zero, List.set_cons_succ]
  refine wpAnyH_take (i := 8) (oi := ⟨_, _, _, _, _, _⟩) (v := ?_) rfl (by kernel_rfl) (by kernel_rfl) (by kernel_rfl) (fun _ _ _ h => h) (Or.inl ⟨by rfl, ?_⟩) (by assumption) ?_
  rotate_left 1
  · intro W' hSw
    obtain ⟨⟨hS1, hS2⟩, hS3, hS4⟩ := hSw
    go_simp
    try with_reducible rfl
  try simp only [Act.put, List.setIfInBounds_toArray, List.set_cons_zero, List.set_cons_succ]
  refine wpAnyH_take (i := 9) (oi := ⟨_, _, _, _, _, _⟩) (v := ?_) rfl (by kernel_rfl) (by kernel_rfl) (by kernel_rfl) (fun _ _ _ h => h) (Or.inl ⟨by rfl, ?_⟩) (by assumption) ?_
  rotate_left 1
  · intro W' hSw
    obtain ⟨⟨hS1, hS2⟩, hS3, hS4⟩ := hSw
    go_simp
    try with_reducible rfl
  try simp only [Act.put, List.setIfInBounds_toArray, List.set_cons_zero, List.set_cons_succ]
  refine wpAnyH_ready (rs := [10]) (by kernel_rfl) (by simp) ?_
  refine AllReadyH.cons (o := ⟨_, _, _, _, _, _⟩) rfl (fun K' hK => ?_) AllReadyH.nil
  go_simp
  refine hed.mono ?_
  rintro en V8 ⟨code, ix, R', rfl, hBt, hSt8⟩
  dsimp only
  have hS8b : (blk V8 bs = some CS6 ∧ blk V8 bi4 = some CI) ∧ blk V8 b3 = some IE ∧ blk V8 b6 = some (arr i64v TT) := by
    obtain ⟨O8, hF8, hS8⟩ := hSt8
    have hF8' : Fr (isS g4) O5 V6 O8 V8 := (Fr.of_extends (L := isS g4) (extd V6)).trans hF8
    obtain ⟨q1, q2, q3⟩ := HSTB.out _ _ (hF8'.mono (fun l e => isI_S e))
    exact ⟨⟨q1, (HMI.out.sto hF8' hS8).cell⟩, q2, q3⟩
  refine hK.out _ _ hS8b (fun hHeld => ?_)
  clear hK K'
  try simp only [Act.put, List.setIfInBounds_toArray, List.set_cons_zero, List.set_cons_succ]
  refine wpAnyH_take (i := 11) (oi := ⟨_, _, _, _, _, _⟩) (v := ?_) rfl (by kernel_rfl) (by kernel_rfl) (by kernel_rfl) (fun _ _ _ h => h) (Or.inl ⟨by rfl, ?_⟩) (by assumption) ?_
  rotate_left 1
  · intro W' hSw
    obtain ⟨⟨hS1, hS2⟩, hS3, hS4⟩ := hSw
    go_simp
    try with_reducible rfl
  try simp only [Act.put, List.setIfInBounds_toArray, List.set_cons_zero, List.set_cons_succ]
  refine wpAnyH_done (by kernel_rfl) ?_ _
  obtain ⟨O8, hF8, hS8⟩ := hSt8
  have hF8' : Fr (isS g4) O5 V6 O8 V8 := (Fr.of_extends (L := isS g4) (extd V6)).trans hF8
  have hm8 := HMI.out.sto hF8' hS8
  have hFI : Fr (isI g4) O5 V6 O8 V8 := hF8'.mono (fun l e => isI_S e)
  have hsz8 := hFI.size
  have hM8 := HH6.out.fr (fr_VI hFI) (HH6.out.sv.swap hFI (Nat.le_trans HB6.out hsz8) ⟨_, _, _, _, hm8⟩)
  have HH8 := hid_of hM8
  have HF8 := hid_of hFI
  have HI8 : Hid (InsAt B6 O8 V8 g4 bi4 ((t1.tab (intF t1.N args).2.2).rel R')) := ⟨_, _, _, _, hm8⟩
  have HBT : Hid (BatR t1.p t1.R [⟨false, (pr : Int), TT⟩] code ix R') := hBt
  clear hed hF8 hS8 hF8' hm8 hFI hM8 hBt hSd hS8b
  by_cases hc3 : code = 0
  rotate_left 1
  · have eR : R' = t1.R := (HBT.out.inv HOK1.out.1.inv HOK1.out.1.cap).2.2 hc3
    have HH8b : Hid (HC O W bs b4 O8 V8 g4 ((s.roomy t1 co).low (t1.tab (intF t1.N args).2.2) 2) CS6 (some ⟨bi4, 0, none⟩) ia4 iN4 ic4) := by
      have h9 := HH8.out
      rw [eR] at h9
      exact h9
    have hrf := refuse_any V8 2 code
    have HRP : Hid (∀ V, V8.Extends V → Q (.returned (.agg (Reply.enc (repZ code 2 (-1))).toArray)) (put V b4 (Reply.enc (repZ code 2 (-1))))) := fun V hx => by
      rw [HQ.out]
      exact (HH8b.out.ext hx).fin (.inr ⟨HCU.out, 0, t1, co, HMR.out, .inr ⟨rfl, .inr ⟨HC2.out, code, ix, R', by unfold inC; rw [← HTT.out]; exact HBT.out, .inl ⟨hc3, rfl, rfl⟩⟩⟩⟩)
    have HB4 : Hid (blk V8 b4 = some Reply.zero.enc ∧ free V8 b4 = true) := ⟨HH8b.out.rc, HH8b.out.rf⟩
    have rl := Reply.length_enc (repZ code 2 (-1))
    have ro := Reply.ok_enc (repZ code 2 (-1))
    have rs := Reply.all_set Reply.zero (repZ code 2 (-1))
    obtain ⟨RE, hRE⟩ : ∃ RE, RE = Reply.enc (repZ code 2 (-1)) := ⟨_, rfl⟩
    rw [← hRE] at hrf HRP rl ro rs
    clear hRE
    have hcb : (code != 0) = true := by simp [hc3]
    clear hc3 eR
    go_wp2_with fail
    refine hrf.mono ?_
    rintro e Vr ⟨rfl, hxr⟩
    have hb4 := (hxr.blk (blk_lt HB4.out.1)).trans HB4.out.1
    have hf4 := (free_of_heap (hxr.block b4 (blk_lt HB4.out.1))).trans HB4.out.2
    have HP := hid_of (HRP.out Vr hxr)
    clear hrf hxr HRP
    dsimp only
    go_wp2_with fail
    refine ret_cell (C := RE) rfl rfl ?_ (by kernel_rfl) (by rw [rl]; kernel_rfl) rfl HP.out
    first | (rw [blk_put, if_pos rfl, hb4]; rfl) | (simp only [blk_put, if_true, hb4, Option.map_some]; try rfl)
  subst hc3
  obtain ⟨ks, k3, k6⟩ := HSTB.out _ _ HF8.out
  have hst := settleI_any (W := V8.drew) (HI8.out.ext (extd V8)) HOK1.out.1.pok (M := M) HOK1.out.2.1 hM ⟨false, (pr : Int), TT⟩ pr rfl HPR1.out HTOK.out
  have hSd : blk V8.drew bs = some CS6 ∧ blk V8.drew b3 = some IE ∧ blk V8.drew b6 = some (arr i64v TT) := ⟨ks, k3, k6⟩
  clear k3 k6 ks
  go_upto_region 14 with fail
  refine wp_region_held_drew (S := fun W' => blk W' bs = some CS6 ∧ blk W' b3 = some IE ∧ blk W' b6 = some (arr i64v TT)) (by kernel_rfl) hSd (fun hHeld => ?_)
  refine wpAnyH_take (i := 0) (oi := ⟨_, _, _, _, _, _⟩) (v := ?_) rfl (by kernel_rfl) (by kernel_rfl) (by kernel_rfl) (fun _ _ _ h => h) (Or.inl ⟨by rfl, ?_⟩) (by assumption) ?_
  rotate_left 1
  · intro W' hSw
    obtain ⟨hS1, hS2, hS3⟩ := hSw
    go_simp
    try with_reducible rfl
  try simp only [Act.put, List.setIfInBounds_toArray, List.set_cons_zero, List.set_cons_succ]
  refine wpAnyH_take (i := 1) (oi := ⟨_, _, _, _, _, _⟩) (v := ?_) rfl (by kernel_rfl) (by kernel_rfl) (by kernel_rfl) (fun _ _ _ h => h) (Or.inl ⟨by rfl, ?_⟩) (by assumption) ?_
  rotate_left 1
  · intro W' hSw
    obtain ⟨hS1, hS2, hS3⟩ := hSw
    go_simp
    try with_reducible rfl
  try simp only [Act.put, List.setIfInBounds_toArray, List.set_cons_zero, List.set_cons_succ]
  refine wpAnyH_take (i := 2) (oi := ⟨_, _, _, _, _, _⟩) (v := ?_) rfl (by kernel_rfl) (by kernel_rfl) (by kernel_rfl) (fun _ _ _ h => h) (Or.inl ⟨by rfl, ?_⟩) (by assumption) ?_
  rotate_left 1
  · intro W' hSw
    obtain ⟨hS1, hS2, hS3⟩ := hSw
    go_simp
    try with_reducible rfl
  try simp only [Act.put, List.setIfInBounds_toArray, List.set_cons_zero, List.set_cons_succ]
  refine wpAnyH_take (i := 3) (oi := ⟨_, _, _, _, _, _⟩) (v := ?_) rfl (by kernel_rfl) (by kernel_rfl) (by kernel_rfl) (fun _ _ _ h => h) (Or.inl ⟨by rfl, ?_⟩) (by assumption) ?_
  rotate_left 1
  · intro W' hSw
    obtain ⟨hS1, hS2, hS3⟩ := hSw
    go_simp
    try with_reducible rfl
  try simp only [Act.put, List.setIfInBounds_toArray, List.set_cons_zero, List.set_cons_succ]
  refine wpAnyH_take (i := 4) (oi := ⟨_, _, _, _, _, _⟩) (v := ?_) rfl (by kernel_rfl) (by kernel_rfl) (by kernel_rfl) (fun _ _ _ h => h) (Or.inl ⟨by rfl, ?_⟩) (by assumption) ?_
  rotate_left 1
  · intro W' hSw
    obtain ⟨hS1, hS2, hS3⟩ := hSw
    go_simp
    try with_reducible rfl
  try simp only [Act.put, List.setIfInBounds_toArray, List.set_cons_zero, List.set_cons_succ]
  refine wpAnyH_take (i := 5) (oi := ⟨_, _, _, _, _, _⟩) (v := ?_) rfl (by kernel_rfl) (by kernel_rfl) (by kernel_rfl) (fun _ _ _ h => h) (Or.inl ⟨by rfl, ?_⟩) (by assumption) ?_
  rotate_left 1
  · intro W' hSw
    obtain ⟨hS1, hS2, hS3⟩ := hSw
    go_simp
    try with_reducible rfl
  try simp only [Act.put, List.setIfInBounds_toArray, List.set_cons_zero, List.set_cons_succ]
  refine wpAnyH_take (i := 6) (oi := ⟨_, _, _, _, _, _⟩) (v := ?_) rfl (by kernel_rfl) (by kernel_rfl) (by kernel_rfl) (fun _ _ _ h => h) (Or.inl ⟨by rfl, ?_⟩) (by assumption) ?_
  rotate_left 1
  · intro W' hSw
    obtain ⟨hS1, hS2, hS3⟩ := hSw
    go_simp
    try with_reducible rfl
  try simp only [Act.put, List.setIfInBounds_toArray, List.set_cons_zero, List.set_cons_succ]
  refine wpAnyH_take (i := 7) (oi := ⟨_, _, _, _, _, _⟩) (v := ?_) rfl (by kernel_rfl) (by kernel_rfl) (by kernel_rfl) (fun _ _ _ h => h) (Or.inl ⟨by rfl, ?_⟩) (by assumption) ?_
  rotate_left 1
  · intro W' hSw
    obtain ⟨hS1, hS2, hS3⟩ := hSw
    go_simp
    try with_reducible rfl
  try simp only [Act.put, List.setIfInBounds_toArray, List.set_cons_zero, List.set_cons_succ]
  refine wpAnyH_ready (rs := [8]) (by kernel_rfl) (by simp) ?_
  refine AllReadyH.cons (o := ⟨_, _, _, _, _, _⟩) rfl (fun K' hK => ?_) AllReadyH.nil
  go_simp
  refine hst.mono ?_
  rintro en V9 ⟨rfl, hIo⟩
  dsimp only
  have hS9 : blk V9 bs = some CS6 ∧ blk V9 b3 = some IE ∧ blk V9 b6 = some (arr i64v TT) := by
    obtain ⟨O9, hF9, -⟩ := hIo
    have hFJ : Fr (isI g4) O8 V8 O9 V9 := (Fr.of_extends (L := isI g4) (extd V8)).trans hF9
    obtain ⟨q1, q4, q5⟩ := HSTB.out _ _ (HF8.out.trans hFJ)
    exact ⟨q1, q4, q5⟩
  refine hK.out _ _ hS9 (fun hHeld => ?_)
  clear hK K'
  try simp only [Act.put, List.setIfInBounds_toArray, List.set_cons_zero, List.set_cons_succ]
  refine wpAnyH_done (by kernel_rfl) ?_ _
  obtain ⟨O9, hF9, hI9⟩ := hIo
  have hFJ : Fr (isI g4) O8 V8 O9 V9 := (Fr.of_extends (L := isI g4) (extd V8)).trans hF9
  have HH9 : Hid (HC O W bs b4 O9 V9 g4 ((s.roomy t1 co).low (setS ((t1.tab (intF t1.N args).2.2).rel R') ⟨false, (pr : Int), TT⟩) 2) CS6 (some ⟨bi4, 0, none⟩) ia4 iN4 ic4) := HH8.out.fr (fr_VI hFJ) (HH8.out.sv.swap hFJ (Nat.le_trans HB6.out (Nat.le_trans hsz8 hFJ.size)) hI9)
  clear hst hF9 hI9 hFJ hSd hS9
  have hrf := accept_any V9 2
  have HRP : Hid (∀ V, V9.Extends V → Q (.returned (.agg (Reply.enc (repZ 0 2 (-1))).toArray)) (put V b4 (Reply.enc (repZ 0 2 (-1))))) := fun V hx => by
    rw [HQ.out]
    exact (HH9.out.ext hx).fin (.inr ⟨HCU.out, 0, t1, co, HMR.out, .inr ⟨rfl, .inr ⟨HC2.out, 0, ix, R', by unfold inC; rw [← HTT.out]; exact HBT.out, .inr ⟨rfl, rfl, by unfold inC; rw [← HTT.out]⟩⟩⟩⟩)
  have HB4 : Hid (blk V9 b4 = some Reply.zero.enc ∧ free V9 b4 = true) := ⟨HH9.out.rc, HH9.out.rf⟩
  have rl := Reply.length_enc (repZ 0 2 (-1))
  have ro := Reply.ok_enc (repZ 0 2 (-1))
  have rs := Reply.all_set Reply.zero (repZ 0 2 (-1))
  obtain ⟨RE, hRE⟩ : ∃ RE, RE = Reply.enc (repZ 0 2 (-1)) := ⟨_, rfl⟩
  rw [← hRE] at hrf HRP rl ro rs
  clear hRE
  go_wp2_with fail
  refine hrf.mono ?_
  rintro e Vr ⟨rfl, hxr⟩
  have hb4 := (hxr.blk (blk_lt HB4.out.1)).trans HB4.out.1
  have hf4 := (free_of_heap (hxr.block b4 (blk_lt HB4.out.1))).trans HB4.out.2
  have HP := hid_of (HRP.out Vr hxr)
  clear hrf hxr HRP
  dsimp only
  go_wp2_with fail
  refine ret_cell (C := RE) rfl rfl ?_ (by kernel_rfl) (by rw [rl]; kernel_rfl) rfl HP.out
  first | (rw [blk_put, if_pos rfl, hb4]; rfl) | (simp only [blk_put, if_true, hb4, Option.map_some]; try rfl)
end Go.Proofs.Qxb6500787aGreat
