
import Derived.Test.Qxb6500787aGreatVk
import Derived.StillTailTactics
import Derived.Deep.QuietTactic
import Derived.BigQuiet
import Derived.Deep.RegionHeld
import Derived.Deep.CutRange
import Derived.Laws.ResultCell
import Derived.Laws.Rows
import Derived.DeepKeys
import Derived.DataBytes
import Derived.Laws.StructEq
import Derived.Laws.AppendOwn
import Derived.Laws.MakeOwn
import Derived.Lib.AppendStr
set_option linter.unusedSimpArgs false
set_option linter.unusedVariables false
namespace Go.Proofs.Qxb6500787aGreat
open Go.RowKit Go.Blk
attribute [local go_sem ↓] execOp_load execOp_store execOp_alloc
attribute [local go_sem] Tryz.ld26 Tryz.st26 Tryz.ld27 Tryz.st27 Tryz.ld28 Tryz.st28 Tryz.ld3 Tryz.st3 Tryz.ld29 Tryz.st29 Tryz.ld44 Tryz.st44 Tryz.ld4 Tryz.st4 Tryz.ld50 Tryz.st50 Tryz.ld32 Tryz.st32 Tryz.ld49 Tryz.st49 Tryz.ld68 Tryz.st68 Tryz.ld9 Tryz.st9 Tryz.ld40 Tryz.st40 Tryz.ld138 Tryz.st138 Tryz.ld139 Tryz.st139 Tryz.ld146 Tryz.st146 Tryz.ld183 Tryz.st183 Tryz.ld184 Tryz.st184 Tryz.ld192 Tryz.st192 Tryz.ld195 Tryz.st195 Tryz.ld217 Tryz.st217 Tryz.ld159 Tryz.st159 Tryz.ld142 Tryz.st142 Tryz.ld2 Tryz.st2 Tryz.ld5 Tryz.st5 Tryz.ld12 Tryz.st12 Tryz.ld21 Tryz.st21 Tryz.ld22 Tryz.st22 Tryz.ld24 Tryz.st24 Tryz.ld58 Tryz.st58 Tryz.ld97 Tryz.st97 Tryz.ld101 Tryz.st101 Tryz.ld116 Tryz.st116 Tryz.ld121 Tryz.st121 Tryz.ld135 Tryz.st135 Tryz.ld136 Tryz.st136 Tryz.ld143 Tryz.st143 Tryz.ld148 Tryz.st148 Tryz.ld154 Tryz.st154 Tryz.ld173 Tryz.st173 Tryz.ld187 Tryz.st187 Tryz.ld222 Tryz.st222 Tryz.ld241 Tryz.st241 Tryz.ld248 Tryz.st248 Tryz.ld268 Tryz.st268 Tryz.ld272 Tryz.st272 Tryz.ld153 Tryz.st153 Tryz.ld255 Tryz.st255 Tryz.ld256 Tryz.st256 Tryz.ld129 Tryz.st129 Tryz.ld152 Tryz.st152 Tryz.ld31 Tryz.st31 Tryz.ld46 Tryz.st46 Tryz.ld52 Tryz.st52 Tryz.ld54 Tryz.st54 Tryz.ld60 Tryz.st60 Tryz.ld70 Tryz.st70 Tryz.ld74 Tryz.st74 Tryz.ld93 Tryz.st93 Tryz.ld141 Tryz.st141 Tryz.ld151 Tryz.st151 Tryz.ld170 Tryz.st170 Tryz.ld186 Tryz.st186 Tryz.ld189 Tryz.st189 Tryz.ld194 Tryz.st194 Tryz.ld197 Tryz.st197 Tryz.ld219 Tryz.st219 Tryz.ld224 Tryz.st224 Tryz.ld230 Tryz.st230 Tryz.ld235 Tryz.st235 Tryz.ld243 Tryz.st243 Tryz.ld247 Tryz.st247 Tryz.ld252 Tryz.st252 Tryz.ld258 Tryz.st258 Tryz.al153 Tryz.al255 Tryz.al256 Tryz.al129 Tryz.al152 Tryz.al31 Tryz.al46 Tryz.al52 Tryz.al54 Tryz.al60 Tryz.al70 Tryz.al74 Tryz.al93 Tryz.al141 Tryz.al151 Tryz.al170 Tryz.al186 Tryz.al189 Tryz.al194 Tryz.al197 Tryz.al219 Tryz.al224 Tryz.al230 Tryz.al235 Tryz.al243 Tryz.al247 Tryz.al252 Tryz.al258
attribute [local go_sem] Request.length_enc Request.ok_enc Request.all_get Request.all_set Request.kind_get Request.kind_set Request.blob_get Request.blob_set Request.items_get Request.items_set Request.pred_get Request.pred_set Request.slots_get Request.slots_set Trace.length_enc Trace.ok_enc Trace.all_get Trace.all_set Trace.op_get Trace.op_set Trace.calls_get Trace.calls_set Item.length_enc Item.ok_enc Item.all_get Item.all_set Item.del_get Item.del_set Item.pred_get Item.pred_set Item.args_get Item.args_set Reply.length_enc Reply.ok_enc Reply.all_get Reply.all_set Reply.code_get Reply.code_set Reply.kind_get Reply.kind_set Reply.index_get Reply.index_set Reply.yes_get Reply.yes_set Reply.preds_get Reply.preds_set Reply.rules_get Reply.rules_set Reply.arity_get Reply.arity_set Reply.rows_get Reply.rows_set Reply.fact_get Reply.fact_set Reply.fact_del_get Reply.fact_del_set Reply.fact_pred_get Reply.fact_pred_set Reply.fact_args_get Reply.fact_args_set GEntry.length_enc GEntry.ok_enc GEntry.all_get GEntry.all_set GEntry.seq_get GEntry.seq_set GEntry.kind_get GEntry.kind_set GEntry.code_get GEntry.code_set GOp.length_enc GOp.ok_enc GOp.all_get GOp.all_set GOp.kind_get GOp.kind_set GOp.raw_get GOp.raw_set Reader.length_enc Reader.ok_enc Reader.all_get Reader.all_set Reader.buf_get Reader.buf_set Reader.at__get Reader.at__set Slot.length_enc Slot.ok_enc Slot.all_get Slot.all_set Slot.bound_get Slot.bound_set Slot.name_get Slot.name_set Session.length_enc Session.ok_enc Session.all_get Session.all_set Session.svc_get Session.svc_set Session.buf_get Session.buf_set Session.closed_get Session.closed_set GProgram.length_enc GProgram.ok_enc GProgram.all_get GProgram.all_set GProgram.pool_get GProgram.pool_set GProgram.preds_get GProgram.preds_set GProgram.rules_get GProgram.rules_set GProgram.strata_get GProgram.strata_set PredInfo.length_enc PredInfo.ok_enc PredInfo.all_get PredInfo.all_set PredInfo.arity_get PredInfo.arity_set PredInfo.base_get PredInfo.base_set PredInfo.stratum_get PredInfo.stratum_set Change.length_enc Change.ok_enc Change.all_get Change.all_set Change.del_get Change.del_set Change.pred_get Change.pred_set Change.t_get Change.t_set Store.length_enc Store.ok_enc Store.all_get Store.all_set Store.names_get Store.names_set Store.arity_get Store.arity_set Store.rows_get Store.rows_set Src.length_enc Src.ok_enc Src.all_get Src.all_set Src.b_get Src.b_set Src.at__get Src.at__set Atom.length_enc Atom.ok_enc Atom.all_get Atom.all_set Atom.pred_get Atom.pred_set Atom.args_get Atom.args_set GRule.length_enc GRule.ok_enc GRule.all_get GRule.all_set GRule.head_get GRule.head_set GRule.body_get GRule.body_set GRule.head_pred_get GRule.head_pred_set GRule.head_args_get GRule.head_args_set Cert.length_enc Cert.ok_enc Cert.all_get Cert.all_set Cert.names_get Cert.names_set Cert.nodes_get Cert.nodes_set Fact.length_enc Fact.ok_enc Fact.all_get Fact.all_set Fact.pred_get Fact.pred_set Fact.t_get Fact.t_set Literal.length_enc Literal.ok_enc Literal.all_get Literal.all_set Literal.neg_get Literal.neg_set Literal.atom_get Literal.atom_set Literal.atom_pred_get Literal.atom_pred_set Literal.atom_args_get Literal.atom_args_set Engine.length_enc Engine.ok_enc Engine.all_get Engine.all_set Engine.prog_get Engine.prog_set Engine.st_get Engine.st_set SrcCertm.length_enc SrcCertm.ok_enc SrcCertm.all_get SrcCertm.all_set SrcCertm.b_get SrcCertm.b_set SrcCertm.at__get SrcCertm.at__set GNode.length_enc GNode.ok_enc GNode.all_get GNode.all_set GNode.rule_get GNode.rule_set GNode.pred_get GNode.pred_set GNode.vals_get GNode.vals_set GNode.refs_get GNode.refs_set Term.length_enc Term.ok_enc Term.all_get Term.all_set Term.var_get Term.var_set Term.n_get Term.n_set Env.length_enc Env.ok_enc Env.all_get Env.all_set Env.val_get Env.val_set Env.set_get Env.set_set
attribute [local go_sem] size_put size_ext blk_put free_put blk_alloc free_alloc blk_drew free_drew blk_ext free_ext lookOr_some putOr_some segAt_some cellAt_some storeIn_some put_put put_alloc_new length_arr ok_arr_u8 ok_arr_u32 ok_arr_u64 ok_arr_i64 ok_arr_sl cellsV_agg cellsV_int cellsV_bool cellsV_string cellsV_pointer cellsV_slice cellsV_sl ok_int ok_bool ok_string ok_pointer ok_slice ok_sl toList_arr seg_arr set_arr nth_splice nth_splice0 seg_splice seg_splice0 splice_splice splice_splice0 length_splice_if
attribute [local go_sem ↓] execOp_box
attribute [local go_sem] box_run nth_arr_u8 put_arr_u8 blk_drewN free_drewN put_drewN blk_raw free_raw
/-- The service's own blocks: its block and its instance's. -/
abbrev isV (g : Nat) (l : Lab) : Prop := l = .a 0 0 ∨ isI g l
theorem isI_0 (g : Nat) : ¬ isI g (.a 0 0) := by rintro ⟨j, e | e⟩ <;> (have := (Lab.a.inj e).1; omega)
theorem isV_9 (g : Nat) : ¬ isV g (.a 0 9) := by
  rintro (e | e)
  · cases e
  · exact scr_I g e
theorem isV_no (g : Nat) : ¬ isV g .no := by
  rintro (e | e)
  · cases e
  · exact isI_no g e
theorem kp_V {g : Nat} (hg : g < 2) {O O' : Own} {W V : World} (h : Fr (isV g) O W O' V) : Kp O W O' V := Kp.fr (L := isV g) h (fun l hl e => e.elim (kept_0 hl) (kept_I hg hl))
/-- The instance has changed in its place. -/
theorem SvM.swap {O O' : Own} {W V : World} {bs g bi : Nat} {s : Sv} {CS : List Value} {ia : Option Addr} {iN ic : Nat} (h : SvM O W bs g s CS (some ⟨bi, 0, none⟩) ia iN ic) (hF : Fr (isI g) O W O' V) {B : Nat} (hB : B ≤ V.heap.size) {t' : InsS} (hI : InsAt B O' V g bi t') : SvM O' V bs g ⟨some t', s.img, s.op, s.calls, s.rst⟩ CS (some ⟨bi, 0, none⟩) ia iN ic := by
  have h0 : ¬ isI g (O bs) := by rw [h.own]; exact isI_0 g
  refine ⟨hF.blk h.cell h0, hF.free h.cell h.fre h0, (hF.keep bs (blk_lt h.cell)).trans h.own, ⟨h.c.len, h.c.c0, h.c.c1, h.c.c2, h.c.c3, h.c.rs⟩, h.im.grow (core_fr hF (isI_no g)), h.gl, (fun e => nomatch e), fun t ht => ?_⟩
  cases ht
  exact ⟨B, bi, rfl, hB, hI⟩
attribute [local go_sem ↓] execOp_build
attribute [local go_sem] build170b
set_option maxRecDepth 100000 in
theorem frame51r (f : Nat → Value) : frameN 51 f = #[f 0, f 1, f 2, f 3, f 4, f 5, f 6, f 7, f 8, f 9, f 10, f 11, f 12, f 13, f 14, f 15, f 16, f 17, f 18, f 19, f 20, f 21, f 22, f 23, f 24, f 25, f 26, f 27, f 28, f 29, f 30, f 31, f 32, f 33, f 34, f 35, f 36, f 37, f 38, f 39, f 40, f 41, f 42, f 43, f 44, f 45, f 46, f 47, f 48, f 49, f 50] := by kernel_rfl
set_option maxRecDepth 40000 in
set_option maxHeartbeats 4000000 in
theorem remove_any {O : Own} {W : World} {bs g : Nat} {s : Sv} {CS : List Value} {ip ia : Option Addr} {iN ic : Nat} (h : SvM O W bs g s CS ip ia iN ic) {t : InsS} (ht : s.inst = some t) (hok : InOk t) {M : Int} (hU : UB M t) (hM : M ≤ 900000000000) (hcl : 0 ≤ s.calls ∧ s.calls ≤ 100) (dl : Bool) (pr n : Nat) (aa : Option Addr) (ac : Nat) (args : List (List UInt8)) (hA : Rw encS 1 (core O W) aa n args) (hn : n ≤ 4) : Calls Tryz.prog 101 #[.pointer (some ⟨bs, 0, none⟩), .agg (itemE dl (pr : Int) aa n ac).toArray] W (HdRel O W bs (rmR s t pr args)) := by
  obtain ⟨Q, hQ⟩ : ∃ Q, Q = HdRel O W bs (rmR s t pr args) := ⟨_, rfl⟩
  rw [← hQ]
  have HQ := hid_of hQ
  have HM := hid_of h
  have HT := hid_of ht
  have HOK := hid_of hok
  have HA := hid_of hA
  have HU := hid_of hU
  obtain ⟨B, bi, rfl, hB, hI⟩ := h.ins t ht
  have HI := hid_of hI
  have HBW := hid_of hB
  have hal : args.length = n := hA.1
  have HAL := hid_of hal
  have c0 := h.c.c0
  have l0 : 0 < CS.length := by rw [h.c.len]; omega
  have hgl := h.gl
  obtain ⟨IE, hIE⟩ : ∃ IE, IE = itemE dl (pr : Int) aa n ac := ⟨_, rfl⟩
  have i1 : nth IE 1 = some (.int .i64 (pr : Int)) := by rw [hIE]; rfl
  have i2 : nth IE 2 = some (.slice aa n ac) := by rw [hIE]; rfl
  have il : IE.length = 3 := by rw [hIE]; rfl
  have sgI : seg IE 0 3 = IE := seg_all _ _ il
  have ilx : 0 + 3 ≤ IE.length := by omega
  have HIE := hid_of hIE
  rw [← hIE]
  have HIL := hid_of il
  have il1 : 1 < IE.length := by omega
  have il2 : 2 < IE.length := by omega
  clear hQ h ht hok hA hB hI hal hIE il hU
  go_enter Tryz.func101, Tryz.ntmps101
  go_upto_region 1 with fail
  refine wp_world (fun V => W.Extends V ∧ blk V W.heap.size = some IE ∧ blk V (W.heap.size + 1) = some Reply.zero.enc ∧ free V (W.heap.size + 1) = true ∧ V.heap.size = W.heap.size + 2) ⟨extends_alloc (extends_alloc (ext_Ext (Ext.refl _)) _) _, ?_, ?_, ?_, ?_⟩ ?_
  · rw [blk_alloc, if_neg (by rw [World.size_alloc]; omega), blk_alloc, if_pos rfl]
  · rw [blk_alloc, if_pos (by rw [World.size_alloc])]; try rfl
  · rw [free_alloc, if_pos (by rw [World.size_alloc])]
  · rw [World.size_alloc, World.size_alloc]
  rintro W1 ⟨hx1, hb3, hb4, hf4, hsz1⟩
  try simp only [World.size_alloc]
  obtain ⟨O1, hO1⟩ : ∃ O1, O1 = lab O W.heap.size (.a 0 9) := ⟨_, rfl⟩
  have hF1 : Fr (fun _ => False) O W O1 W1 := by rw [hO1]; exact ⟨hx1.os, hx1.tape, hx1.output, hx1.size, fun k hk => lab_lt hk, fun k hk _ => hx1.block k hk⟩
  obtain ⟨b4, e4⟩ : ∃ b4, b4 = W.heap.size + 1 := ⟨_, rfl⟩
  obtain ⟨b3, e3⟩ : ∃ b3, b3 = W.heap.size := ⟨_, rfl⟩
  rw [← e4] at hb4 hf4 ⊢
  rw [← e3] at hb3 ⊢
  have ho4 : O1 b4 = .a 0 9 := by rw [hO1, e4]; exact lab_ge (by omega)
  have ho3 : O1 b3 = .a 0 9 := by rw [hO1, e3]; exact lab_ge (by omega)
  have hw4 : W.heap.size ≤ b4 := by omega
  have hM1 := HM.out.frF hF1
  have hbs1 := hM1.cell
  have hpc : ProgC W1 bi t.p := by
    obtain ⟨CI, bst, be, A, hm⟩ := HI.out.ext hx1
    exact ProgL.c hm.progL
  have hcr := checkUpdate_any (W := W1.drew) (hpc.ext (extd W1)) dl pr n aa ac
  rw [← HIE.out] at hcr
  obtain ⟨cd, hcd⟩ : ∃ cd, cd = cuF t.p pr n := ⟨_, rfl⟩
  rw [← hcd] at hcr
  have HCD := hid_of hcd
  have HF1 := hid_of hF1
  have HM1 := hid_of hM1
  have HO4 := hid_of ho4
  have HO3 := hid_of ho3
  have HB34 : Hid (∀ V, W1.Extends V → blk V b3 = some IE ∧ blk V b4 = some Reply.zero.enc ∧ free V b4 = true ∧ blk V bs = some CS) := fun V hx => ⟨(hx.blk (blk_lt hb3)).trans hb3, (hx.blk (blk_lt hb4)).trans hb4, (free_of_heap (hx.block b4 (blk_lt hb4))).trans hf4, (hx.blk (blk_lt hbs1)).trans hbs1⟩
  have HSS : Hid (∀ V, W1.Extends V → blk V bs = some CS ∧ blk V b3 = some IE) := fun V hx => ⟨(HB34.out V hx).2.2.2, (HB34.out V hx).1⟩
  have hS1 : blk W1.drew bs = some CS ∧ blk W1.drew b3 = some IE := ⟨hbs1, hb3⟩
  have HL3 := hid_of (blk_lt hb3)
  have HL4 := hid_of (blk_lt hb4)
  have HLS := hid_of (blk_lt hbs1)
  clear hx1 hsz1 hO1 hF1 e4 e3 ho4 ho3 hM1 hpc hcd hb3 hb4 hf4 hbs1
  refine wp_region_held_drew (S := fun W' => blk W' bs = some CS ∧ blk W' b3 = some IE) (by kernel_rfl) hS1 (fun hHeld => ?_)
  refine wpAnyH_take (i := 0) (oi := ⟨_, _, _, _, _, _⟩) (v := ?_) rfl (by kernel_rfl) (by kernel_rfl) (by kernel_rfl) (fun _ _ _ h => h) (Or.inl ⟨by rfl, ?_⟩) (by assumption) ?_
  rotate_left 1
  · intro W' hSw
    obtain ⟨hS1, hS2⟩ := hSw
    go_simp
    try with_reducible rfl
  try simp only [Act.put, List.setIfInBounds_toArray, List.set_cons_zero, List.set_cons_succ]
  refine wpAnyH_take (i := 1) (oi := ⟨_, _, _, _, _, _⟩) (v := ?_) rfl (by kernel_rfl) (by kernel_rfl) (by kernel_rfl) (fun _ _ _ h => h) (Or.inl ⟨by rfl, ?_⟩) (by assumption) ?_
  rotate_left 1
  · intro W' hSw
    obtain ⟨hS1, hS2⟩ := hSw
    go_simp
    try with_reducible rfl
  try simp only [Act.put, List.setIfInBounds_toArray, List.set_cons_zero, List.set_cons_succ]
  refine wpAnyH_take (i := 2) (oi := ⟨_, _, _, _, _, _⟩) (v := ?_) rfl (by kernel_rfl) (by kernel_rfl) (by kernel_rfl) (fun _ _ _ h => h) (Or.inl ⟨by rfl, ?_⟩) (by assumption) ?_
  rotate_left 1
  · intro W' hSw
    obtain ⟨hS1, hS2⟩ := hSw
    go_simp
    try with_reducible rfl
  try simp only [Act.put, List.setIfInBounds_toArray, List.set_cons_zero, List.set_cons_succ]
  refine wpAnyH_take (i := 3) (oi := ⟨_, _, _, _, _, _⟩) (v := ?_) rfl (by kernel_rfl) (by kernel_rfl) (by kernel_rfl) (fun _ _ _ h => h) (Or.inl ⟨by rfl, ?_⟩) (by assumption) ?_
  rotate_left 1
  · intro W' hSw
    obtain ⟨hS1, hS2⟩ := hSw
    go_simp
    try with_reducible rfl
  try simp only [Act.put, List.setIfInBounds_toArray, List.set_cons_zero, List.set_cons_succ]
  refine wpAnyH_take (i := 4) (oi := ⟨_, _, _, _, _, _⟩) (v := ?_) rfl (by kernel_rfl) (by kernel_rfl) (by kernel_rfl) (fun _ _ _ h => h) (Or.inl ⟨by rfl, ?_⟩) (by assumption) ?_
  rotate_left 1
  · intro W' hSw
    obtain ⟨hS1, hS2⟩ := hSw
    go_simp
    try with_reducible rfl
  try simp only [Act.put, List.setIfInBounds_toArray, List.set_cons_zero, List.set_cons_succ]
  refine wpAnyH_ready (rs := [5]) (by kernel_rfl) (by simp) ?_
  refine AllReadyH.cons (o := ⟨_, _, _, _, _, _⟩) rfl (fun K' hK => ?_) AllReadyH.nil
  go_simp
  refine hcr.mono ?_
  rintro en V2 ⟨rfl, hx2⟩
  dsimp only
  have HX2 : Hid (W1.Extends V2) := (extd W1).trans hx2
  have hS2 := HSS.out V2 HX2.out
  clear hx2
  refine hK.out _ _ hS2 (fun hHeld => ?_)
  clear hK K'
  try simp only [Act.put, List.setIfInBounds_toArray, List.set_cons_zero, List.set_cons_succ]
  refine wpAnyH_take (i := 6) (oi := ⟨_, _, _, _, _, _⟩) (v := ?_) rfl (by kernel_rfl) (by kernel_rfl) (by kernel_rfl) (fun _ _ _ h => h) (Or.inl ⟨by rfl, ?_⟩) (by assumption) ?_
  rotate_left 1
  · intro W' hSw
    obtain ⟨hS1, hS2⟩ := hSw
    go_simp
    try with_reducible rfl
  try simp only [Act.put, List.setIfInBounds_toArray, List.set_cons_zero, List.set_cons_succ]
  refine wpAnyH_done (by kernel_rfl) ?_ _
  clear hS2
  have HFIN : Hid (∀ (Ox : Own) (V : World) (rep : Reply) (s' : Sv) (CSx : List Value), Fr (isV g) O W Ox V → SvM Ox V bs g s' CSx (some ⟨bi, 0, none⟩) ia iN ic → Ox b4 = .a 0 9 → rmR s t pr args rep s' → Q (.returned (.agg (Reply.enc rep).toArray)) (put V b4 (Reply.enc rep))) := by
    intro Ox V rep s' CSx h1 h2 h3 h4
    rw [HQ.out]
    exact hr_fin h4 (kp_V hgl (h1.put_new hw4 _)) (h2.put_new h3 _)
  have HX : Hid (∀ V, W1.Extends V → ∃ Ox, Fr (fun _ => False) O W Ox V ∧ SvM Ox V bs g s CS (some ⟨bi, 0, none⟩) ia iN ic ∧ Ox b4 = .a 0 9 ∧ Ox b3 = .a 0 9 ∧ ∀ k, W1.heap.size ≤ k → Ox k = .no) := fun V hx => by
    have hF := Fr.grow (L := fun _ => False) (O := O1) hx
    exact ⟨_, HF1.out.trans hF, HM1.out.frF hF, (hF.keep b4 HL4.out).trans HO4.out, (hF.keep b3 HL3.out).trans HO3.out, fun k hk => lab_ge hk⟩
  clear hcr hS1
  by_cases hc0 : cd = 0
  rotate_left 1
  · have hrf := refuse_any V2 3 cd
    have hcb : (cd != 0) = true := by simp [hc0]
    have HRP : Hid (∀ V, W1.Extends V → Q (.returned (.agg (Reply.enc (repZ cd 3 (-1))).toArray)) (put V b4 (Reply.enc (repZ cd 3 (-1))))) := fun V hx => by
      obtain ⟨Ox, h1, h2, h3, -⟩ := HX.out V hx
      refine HFIN.out Ox V _ s CS (h1.mono (fun _ e => e.elim)) h2 h3 (.inl ?_)
      rw [HAL.out, ← HCD.out]
      exact ⟨hc0, rfl, rfl⟩
    have rl := Reply.length_enc (repZ cd 3 (-1))
    have ro := Reply.ok_enc (repZ cd 3 (-1))
    have rs := Reply.all_set Reply.zero (repZ cd 3 (-1))
    obtain ⟨RE, hRE⟩ : ∃ RE, RE = Reply.enc (repZ cd 3 (-1)) := ⟨_, rfl⟩
    rw [← hRE] at hrf HRP rl ro rs
    clear hc0 hRE
    go_wp2_with fail
    refine hrf.mono ?_
    rintro e V3 ⟨rfl, hx3⟩
    obtain ⟨-, hb4, hf4, -⟩ := HB34.out V3 (HX2.out.trans hx3)
    have HP := hid_of (HRP.out V3 (HX2.out.trans hx3))
    clear hrf hx3 HRP
    dsimp only
    go_wp2_with fail
    refine ret_cell (C := RE) rfl rfl ?_ (by kernel_rfl) (by rw [rl]; kernel_rfl) rfl HP.out
    first | (rw [blk_put, if_pos rfl, hb4]; rfl) | (simp only [blk_put, if_true, hb4, Option.map_some]; try rfl)
  have hz : cd = 0 := hc0
  have HCU : Hid (cuF t.p pr args.length = 0) := by
    show _ = _
    rw [HAL.out, ← HCD.out]; exact hz
  have hpr : pr < t.p.preds.length := by
    have h9 := HCD.out
    rw [hz] at h9
    unfold cuF at h9
    by_cases e : t.p.preds.length ≤ pr
    · rw [if_pos e] at h9; cases h9
    · omega
  subst hz
  have HPR := hid_of hpr
  have HAr : Hid (∀ V, W.Extends V → Rw encS 1 V aa n args) := fun V hx => HA.out.uncore.ext' hx
  have HRS : Hid (∀ V, W1.Extends V → Calls Tryz.prog 136 #[.pointer (some ⟨bi, 0, none⟩), .slice aa n ac] V fun e V' => e = .returned (.agg (arr i64v (mkT (resV t.N args) args.length)).toArray) ∧ V.Extends V') := fun V hx => resolve_any (HI.out.ext (HF1.out.toExt.trans hx)) HOK.out.nl aa n ac args (HAr.out V (HF1.out.toExt.trans hx)) hn
  obtain ⟨TT, hTT⟩ : ∃ TT, TT = mkT (resV t.N args) args.length := ⟨_, rfl⟩
  rw [← hTT] at HRS
  have HTT := hid_of hTT
  obtain ⟨R4, hR4⟩ : ∃ R4 : Act → Act → World → Prop, R4 = fun a0 a' w' => ∃ (b6 : Nat) (f : Nat → Value), a' = ⟨frameN 51 f, []⟩ ∧ f 0 = .pointer (some ⟨bs, 0, none⟩) ∧ f 3 = .pointer (some ⟨b3, 0, none⟩) ∧ f 4 = .pointer (some ⟨b4, 0, none⟩) ∧ f 6 = .pointer (some ⟨b6, 0, none⟩) ∧ Hid (W1.Extends w' ∧ blk w' b6 = some (arr i64v TT) ∧ W1.heap.size ≤ b6) := ⟨_, rfl⟩
  have HR4 := hid_of hR4
  clear hR4 hTT hpr
  go_upto_region 4 with fail
  refine wp_cutR R4 ?_ ?_
  · rw [HR4.out]
    clear HR4 HFIN HX
    have hxd : W1.Extends V2.drew := extends_drew HX2.out
    have HXD := hid_of hxd
    have hSd := HSS.out _ hxd
    have HSZ : Hid (W1.heap.size ≤ V2.heap.size) := HX2.out.size
    clear hxd
    refine wp_region_held_drew (S := fun W' => blk W' bs = some CS ∧ blk W' b3 = some IE) (by kernel_rfl) hSd (fun hHeld => ?_)
    refine wpAnyH_take (i := 0) (oi := ⟨_, _, _, _, _, _⟩) (v := ?_) rfl (by kernel_rfl) (by kernel_rfl) (by kernel_rfl) (fun _ _ _ h => nomatch h.1) (Or.inl ⟨by rfl, ?_⟩) (by assumption) ?_
    rotate_left 1
    · intro W' hSw
      obtain ⟨hS1, hS2⟩ := hSw
      go_simp
      try with_reducible rfl
    try simp only [Act.put, List.setIfInBounds_toArray, List.set_cons_zero, List.set_cons_succ]
    refine wpAnyH_take (i := 1) (oi := ⟨_, _, _, _, _, _⟩) (v := ?_) rfl (by kernel_rfl) (by kernel_rfl) (by kernel_rfl) (fun _ _ _ h => nomatch h.1) (Or.inl ⟨by rfl, ?_⟩) (by assumption) ?_
    rotate_left 1
    · intro W' hSw
      obtain ⟨hS1, hS2⟩ := hSw
      go_simp
      try with_reducible rfl
    try simp only [Act.put, List.setIfInBounds_toArray, List.set_cons_zero, List.set_cons_succ]
    refine wpAnyH_take (i := 2) (oi := ⟨_, _, _, _, _, _⟩) (v := ?_) rfl (by kernel_rfl) (by kernel_rfl) (by kernel_rfl) (fun _ _ _ h => nomatch h.1) (Or.inl ⟨by rfl, ?_⟩) (by assumption) ?_
    rotate_left 1
    · intro W' hSw
      obtain ⟨hS1, hS2⟩ := hSw
      go_simp
      try with_reducible rfl
    try simp only [Act.put, List.setIfInBounds_toArray, List.set_cons_zero, List.set_cons_succ]
    refine wpAnyH_take (i := 3) (oi := ⟨_, _, _, _, _, _⟩) (v := ?_) rfl (by kernel_rfl) (by kernel_rfl) (by kernel_rfl) (fun _ _ _ h => nomatch h.1) (Or.inl ⟨by rfl, ?_⟩) (by assumption) ?_
    rotate_left 1
    · intro W' hSw
      obtain ⟨hS1, hS2⟩ := hSw
      go_simp
      try with_reducible rfl
    try simp only [Act.put, List.setIfInBounds_toArray, List.set_cons_zero, List.set_cons_succ]
    refine wpAnyH_take (i := 4) (oi := ⟨_, _, _, _, _, _⟩) (v := ?_) rfl (by kernel_rfl) (by kernel_rfl) (by kernel_rfl) (fun _ _ _ h => nomatch h.1) (Or.inl ⟨by rfl, ?_⟩) (by assumption) ?_
    rotate_left 1
    · intro W' hSw
      obtain ⟨hS1, hS2⟩ := hSw
      go_simp
      try with_reducible rfl
    try simp only [Act.put, List.setIfInBounds_toArray, List.set_cons_zero, List.set_cons_succ]
    refine wpAnyH_take (i := 5) (oi := ⟨_, _, _, _, _, _⟩) (v := ?_) rfl (by kernel_rfl) (by kernel_rfl) (by kernel_rfl) (fun _ _ _ h => nomatch h.1) (Or.inl ⟨by rfl, ?_⟩) (by assumption) ?_
    rotate_left 1
    · intro W' hSw
      obtain ⟨hS1, hS2⟩ := hSw
      go_simp
      try with_reducible rfl
    try simp only [Act.put, List.setIfInBounds_toArray, List.set_cons_zero, List.set_cons_succ]
    refine wpAnyH_ready (rs := [6, 7]) (by kernel_rfl) (by simp) ?_
    refine AllReadyH.cons (o := ⟨_, _, _, _, _, _⟩) rfl (fun K' hK => ?_) (AllReadyH.cons (o := ⟨_, _, _, _, _, _⟩) rfl (fun K' hK => ?_) AllReadyH.nil)
    · go_simp
      refine (HRS.out _ HXD.out).mono ?_
      rintro en V5 ⟨rfl, hx5⟩
      dsimp only
      have hx15 : W1.Extends V5 := Go.World.Extends.trans HXD.out hx5
      have hSA : ∀ X, blk (V5.alloc X) bs = some CS ∧ blk (V5.alloc X) b3 = some IE := fun X => HSS.out _ (extends_alloc hx15 _)
      refine hK.out _ _ (HSS.out _ hx15) (fun hHeld => ?_)
      clear hK K'
      try simp only [Act.put, List.setIfInBounds_toArray, List.set_cons_zero, List.set_cons_succ]
      refine wpAnyH_ready (rs := [7]) (by kernel_rfl) (by simp) ?_
      refine AllReadyH.cons (o := ⟨_, _, _, _, _, _⟩) rfl (fun K' hK => ?_) AllReadyH.nil
      go_simp
      refine hK.out _ _ (hSA _) (fun hHeld => ?_)
      clear hK K'
      try simp only [Act.put, List.setIfInBounds_toArray, List.set_cons_zero, List.set_cons_succ]
      refine wpAnyH_ready (rs := [8]) (by kernel_rfl) (by simp) ?_
      refine AllReadyH.cons (o := ⟨_, _, _, _, _, _⟩) rfl (fun K' hK => ?_) AllReadyH.nil
      go_simp
      refine hK.out _ _ (hSA _) (fun hHeld => ?_)
      clear hK K'
      try simp only [Act.put, List.setIfInBounds_toArray, List.set_cons_zero, List.set_cons_succ]
      refine wpAnyH_done (by kernel_rfl) ?_ _
      refine ⟨rfl, V5.heap.size, cut_intro _ rfl ⟨rfl, rfl, rfl, rfl, ?_⟩⟩
      exact ⟨extends_alloc hx15 _, by rw [blk_alloc, if_pos rfl], hx15.size⟩
    · go_simp
      first | rw [show (V2.alloc (.cells (arr i64v (Vector.replicate 4 (0 : Int))).toArray 214)).drew = V2.drew.alloc (.cells (arr i64v (Vector.replicate 4 (0 : Int))).toArray 214) from rfl] | rw [show (V2.alloc (.cells (arr i64v (Vector.replicate 4 (0 : Int))).toArray 214)).drewN 1 = V2.drew.alloc (.cells (arr i64v (Vector.replicate 4 (0 : Int))).toArray 214) from rfl] | skip
      have hxa : W1.Extends (V2.drew.alloc (.cells (arr i64v (Vector.replicate 4 (0 : Int))).toArray 214)) := extends_alloc HXD.out _
      have HXA := hid_of hxa
      have hba : blk (V2.drew.alloc (.cells (arr i64v (Vector.replicate 4 (0 : Int))).toArray 214)) V2.heap.size = some (arr i64v (Vector.replicate 4 (0 : Int))) := by rw [blk_alloc, if_pos (show V2.heap.size = V2.drew.heap.size from rfl)]
      have hfa : free (V2.drew.alloc (.cells (arr i64v (Vector.replicate 4 (0 : Int))).toArray 214)) V2.heap.size = true := by rw [free_alloc, if_pos (show V2.heap.size = V2.drew.heap.size from rfl)]
      have HBA : Hid (blk (V2.drew.alloc (.cells (arr i64v (Vector.replicate 4 (0 : Int))).toArray 214)) V2.heap.size = some (arr i64v (Vector.replicate 4 (0 : Int))) ∧ free (V2.drew.alloc (.cells (arr i64v (Vector.replicate 4 (0 : Int))).toArray 214)) V2.heap.size = true) := ⟨hba, hfa⟩
      have n3s : ¬ b3 = V2.heap.size := by have h1 := HL3.out; have h2 := HSZ.out; omega
      have nss : ¬ bs = V2.heap.size := by have h1 := HLS.out; have h2 := HSZ.out; omega
      clear hxa hba hfa
      refine hK.out _ _ (HSS.out _ HXA.out) (fun hHeld => ?_)
      clear hK K'
      try simp only [Act.put, List.setIfInBounds_toArray, List.set_cons_zero, List.set_cons_succ]
      refine wpAnyH_ready (rs := [6]) (by kernel_rfl) (by simp) ?_
      refine AllReadyH.cons (o := ⟨_, _, _, _, _, _⟩) rfl (fun K' hK => ?_) AllReadyH.nil
      go_simp
      refine (HRS.out _ HXA.out).mono ?_
      rintro en V5 ⟨rfl, hx5⟩
      dsimp only
      have hx15 : W1.Extends V5 := Go.World.Extends.trans HXA.out hx5
      have hbz : blk V5 V2.heap.size = some (arr i64v (Vector.replicate 4 (0 : Int))) := (hx5.blk (blk_lt HBA.out.1)).trans HBA.out.1
      have hfz : free V5 V2.heap.size = true := (free_of_heap (hx5.block V2.heap.size (blk_lt HBA.out.1))).trans HBA.out.2
      have hSB : ∀ C, blk (put V5 V2.heap.size C) bs = some CS ∧ blk (put V5 V2.heap.size C) b3 = some IE := fun C => ⟨by rw [blk_put, if_neg nss]; exact (HSS.out _ hx15).1, by rw [blk_put, if_neg n3s]; exact (HSS.out _ hx15).2⟩
      refine hK.out _ _ (HSS.out _ hx15) (fun hHeld => ?_)
      clear hK K'
      try simp only [Act.put, List.setIfInBounds_toArray, List.set_cons_zero, List.set_cons_succ]
      refine wpAnyH_ready (rs := [8]) (by kernel_rfl) (by simp) ?_
      refine AllReadyH.cons (o := ⟨_, _, _, _, _, _⟩) rfl (fun K' hK => ?_) AllReadyH.nil
      go_simp
      refine hK.out _ _ (hSB _) (fun hHeld => ?_)
      clear hK K'
      try simp only [Act.put, List.setIfInBounds_toArray, List.set_cons_zero, List.set_cons_succ]
      refine wpAnyH_done (by kernel_rfl) ?_ _
      refine ⟨rfl, V2.heap.size, cut_intro _ rfl ⟨rfl, rfl, rfl, rfl, ?_⟩⟩
      exact ⟨extends_put hx15 HSZ.out _, by rw [blk_put, if_pos rfl, hbz]; rfl, HSZ.out⟩
  rw [HR4.out]
  rintro _ V4 ⟨b6, f4, rfl, f0, f3, f4', f6, H4⟩
  rw [frame51r, f0, f3, f4', f6]
  clear f0 f3 f4' f6
  obtain ⟨hx4, hb6, hw6⟩ := H4.out
  obtain ⟨Ox, hFx, hMx, ho4x, ho3x, hox⟩ := HX.out V4 hx4
  have ho6x := hox b6 hw6
  obtain ⟨kb3, kb4, kf4, kbs⟩ := HB34.out V4 hx4
  have hlow := lower_any hMx.cell hMx.fre hMx.c.len hMx.c.c3 hcl.1 (by omega) 3
  have nb3 : b3 ≠ bs := fun e => by
    have h9 := hMx.own
    rw [← e, ho3x] at h9
    cases h9
  have nb6 : b6 ≠ bs := fun e => by
    have h9 := hMx.own
    rw [← e, ho6x] at h9
    cases h9
  have nb4 : b4 ≠ bs := fun e => by
    have h9 := hMx.own
    rw [← e, ho4x] at h9
    cases h9
  have HMX := hid_of hMx
  have HFX := hid_of hFx
  have HO : Hid (Ox b4 = .a 0 9 ∧ Ox b3 = .a 0 9 ∧ Ox b6 = .no) := ⟨ho4x, ho3x, ho6x⟩
  have HK : Hid (blk V4 b3 = some IE ∧ blk V4 b4 = some Reply.zero.enc ∧ free V4 b4 = true ∧ blk V4 b6 = some (arr i64v TT)) := ⟨kb3, kb4, kf4, hb6⟩
  clear hx4 hb6 hw6 hFx hMx ho4x ho3x ho6x hox kb3 kb4 kf4 kbs H4 c0 l0
  go_wp2_with fail
  refine hlow.mono ?_
  rintro e V5 ⟨rfl, hOn⟩
  dsimp only
  obtain ⟨hFl, hM5⟩ := HMX.out.low 3 hOn
  have k3 : blk V5 b3 = some IE := (blk_of_heap (hOn.heap b3 nb3)).trans HK.out.1
  have k4 : blk V5 b4 = some Reply.zero.enc := (blk_of_heap (hOn.heap b4 nb4)).trans HK.out.2.1
  have kf : free V5 b4 = true := (free_of_heap (hOn.heap b4 nb4)).trans HK.out.2.2.1
  have k6 : blk V5 b6 = some (arr i64v TT) := (blk_of_heap (hOn.heap b6 nb6)).trans HK.out.2.2.2
  have hFW : Fr (isV g) O W Ox V5 := (HFX.out.mono (fun _ e => e.elim)).trans (hFl.mono (fun _ e => .inl e))
  obtain ⟨CS2, hCS2⟩ : ∃ CS2, CS2 = splice (splice CS 2 [.int .i64 3]) 3 [.int .i64 (s.calls + 1)] := ⟨_, rfl⟩
  rw [← hCS2] at hM5
  have HM5 := hid_of hM5
  have HFW := hid_of hFW
  -- what stands while only the instance changes
  have HSTB : Hid (∀ O' V, Fr (isI g) Ox V5 O' V → blk V b3 = some IE ∧ blk V b4 = some Reply.zero.enc ∧ free V b4 = true ∧ blk V b6 = some (arr i64v TT) ∧ blk V bs = some CS2 ∧ O' b4 = .a 0 9) := fun O' V hF => by
    have n3 : ¬ isI g (Ox b3) := by rw [HO.out.2.1]; exact scr_I g
    have n4 : ¬ isI g (Ox b4) := by rw [HO.out.1]; exact scr_I g
    have n6 : ¬ isI g (Ox b6) := by rw [HO.out.2.2]; exact isI_no g
    have ns : ¬ isI g (Ox bs) := by rw [hM5.own]; exact isI_0 g
    exact ⟨hF.blk k3 n3, hF.blk k4 n4, hF.free k4 kf n4, hF.blk k6 n6, hF.blk hM5.cell ns, (hF.keep b4 (blk_lt k4)).trans HO.out.1⟩
  obtain ⟨B2, bi2, eip, hB2, hI5⟩ := hM5.ins t HT.out
  have ebi : bi = bi2 := congrArg Addr.block (Option.some.inj eip)
  subst ebi
  have d0 := hM5.c.c0
  have d0l : 0 < CS2.length := by rw [hM5.c.len]; omega
  obtain ⟨CI, bst, be, A, hm5⟩ := hI5
  have ci5 := hm5.ic.c5
  have cil : 5 < CI.length := by rw [hm5.ic.len]; omega
  have hlb : (arr i64v TT).length = 4 := length_arr _ _
  have sgT : seg (arr i64v TT) 0 4 = arr i64v TT := seg_all _ _ hlb
  have hed := edelete_any (W := V5.drew) (hm5.ext (extd V5)).eng hm5.ego ((ProgL.c hm5.progL).ext (extd V5)) HOK.out.pok (hm5.ext (extd V5)).st HOK.out.inv HOK.out.cap pr TT ⟨by show (0 : Int) ≤ (pr : Int); omega, by show ((pr : Int)).toNat < _; have := HPR.out; omega, (fun e => nomatch e)⟩
  have hSd : (blk V5.drew bs = some CS2 ∧ blk V5.drew bi = some CI) ∧ blk V5.drew b3 = some IE ∧ blk V5.drew b6 = some (arr i64v TT) := ⟨⟨hM5.cell, hm5.cell⟩, k3, k6⟩
  have HMI := hid_of hm5
  have HB2 := hid_of hB2
  clear hlow hOn hFl hM5 k3 k4 kf k6 hFW hCS2 HFX HMX HK hB2 hm5 eip
  go_upto_region 6 with fail
  refine wp_region_held_drew (S := fun W' => (blk W' bs = some CS2 ∧ blk W' bi = some CI) ∧ blk W' b3 = some IE ∧ blk W' b6 = some (arr i64v TT)) (by kernel_rfl) hSd (fun hHeld => ?_)
  refine wpAnyH_take (i := 0) (oi := ⟨_, _, _, _, _, _⟩) (v := ?_) rfl (by kernel_rfl) (by kernel_rfl) (by kernel_rfl) (fun _ _ _ h => h) (Or.inl ⟨by rfl, ?_⟩) (by assumption) ?_
  rotate_left 1
  · intro W' hSw
    obtain ⟨⟨hS1, hS2⟩, hS3, hS4⟩ := hSw
    go_simp
    try with_reducible rfl
  try simp only [Act.put, List.setIfInBounds_toArray, List.set_cons_zero, List.set_cons_succ]
  refine wpAnyH_take (i := 1) (oi := ⟨_, _, _, _, _, _⟩) (v := ?_) rfl (by kernel_rfl) (by kernel_rfl) (by kernel_rfl) (fun _ _ _ h => h) (Or.inl ⟨by rfl, ?_⟩) (by assumption) ?_
  rotate_left 1
  · intro W' hSw
    obtain ⟨⟨hS1, hS2⟩, hS3, hS4⟩ := hSw
    go_simp
    try with_reducible rfl
  try simp only [Act.put, List.setIfInBounds_toArray, List.set_cons_zero, List.set_cons_succ]
  refine wpAnyH_take (i := 2) (oi := ⟨_, _, _, _, _, _⟩) (v := ?_) rfl (by kernel_rfl) (by kernel_rfl) (by kernel_rfl) (fun _ _ _ h => h) (Or.inl ⟨by rfl, ?_⟩) (by assumption) ?_
  rotate_left 1
  · intro W' hSw
    obtain ⟨⟨hS1, hS2⟩, hS3, hS4⟩ := hSw
    go_simp
    try with_reducible rfl
  try simp only [Act.put, List.setIfInBounds_toArray, List.set_cons_zero, List.set_cons_succ]
  refine wpAnyH_take (i := 3) (oi := ⟨_, _, _, _, _, _⟩) (v := ?_) rfl (by kernel_rfl) (by kernel_rfl) (by kernel_rfl) (fun _ _ _ h => h) (Or.inl ⟨by rfl, ?_⟩) (by assumption) ?_
  rotate_left 1
  · intro W' hSw
    obtain ⟨⟨hS1, hS2⟩, hS3, hS4⟩ := hSw
    go_simp
    try with_reducible rfl
  try simp only [Act.put, List.setIfInBounds_toArray, List.set_cons_zero, List.set_cons_succ]
  refine wpAnyH_take (i := 4) (oi := ⟨_, _, _, _, _, _⟩) (v := ?_) rfl (by kernel_rfl) (by kernel_rfl) (by kernel_rfl) (fun _ _ _ h => h) (Or.inl ⟨by rfl, ?_⟩) (by assumption) ?_
  rotate_left 1
  · intro W' hSw
    obtain ⟨⟨hS1, hS2⟩, hS3, hS4⟩ := hSw
    go_simp
    try with_reducible rfl
  try simp only [Act.put, List.setIfInBounds_toArray, List.set_cons_zero, List.set_cons_succ]
  refine wpAnyH_take (i := 5) (oi := ⟨_, _, _, _, _, _⟩) (v := ?_) rfl (by kernel_rfl) (by kernel_rfl) (by kernel_rfl) (fun _ _ _ h => h) (Or.inl ⟨by rfl, ?_⟩) (by assumption) ?_
  rotate_left 1
  · intro W' hSw
    obtain ⟨⟨hS1, hS2⟩, hS3, hS4⟩ := hSw
    go_simp
    try with_reducible rfl
  try simp only [Act.put, List.setIfInBounds_toArray, List.set_cons_zero, List.set_cons_succ]
  refine wpAnyH_take (i := 6) (oi := ⟨_, _, _, _, _, _⟩) (v := ?_) rfl (by kernel_rfl) (by kernel_rfl) (by kernel_rfl) (fun _ _ _ h => h) (Or.inl ⟨by rfl, ?_⟩) (by assumption) ?_
  rotate_left 1
  · intro W' hSw
    obtain ⟨⟨hS1, hS2⟩, hS3, hS4⟩ := hSw
    go_simp
    try with_reducible rfl
  try simp only [Act.put, List.setIfInBounds_toArray, List.set_cons_zero, List.set_cons_succ]
  refine wpAnyH_take (i := 7) (oi := ⟨_, _, _, _, _, _⟩) (v := ?_) rfl (by kernel_rfl) (by kernel_rfl) (by kernel_rfl) (fun _ _ _ h => h) (Or.inl ⟨by rfl, ?_⟩) (by assumption) ?_
  rotate_left 1
  · intro W' hSw
    obtain ⟨⟨hS1, hS2⟩, hS3, hS4⟩ := hSw
    go_simp
    try with_reducible rfl
  try simp only [Act.put, List.setIfInBounds_toArray, List.set_cons_zero, List.set_cons_succ]
  refine wpAnyH_take (i := 8) (oi := ⟨_, _, _, _, _, _⟩) (v := ?_) rfl (by kernel_rfl) (by kernel_rfl) (by kernel_rfl) (fun _ _ _ h => h) (Or.inl ⟨by rfl, ?_⟩) (by assumption) ?_
  rotate_left 1
  · intro W' hSw
    obtain ⟨⟨hS1, hS2⟩, hS3, hS4⟩ := hSw
    go_simp
    try with_reducible rfl
  try simp only [Act.put, List.setIfInBounds_toArray, List.set_cons_zero, List.set_cons_succ]
  refine wpAnyH_take (i := 9) (oi := ⟨_, _, _, _, _, _⟩) (v := ?_) rfl (by kernel_rfl) (by kernel_rfl) (by kernel_rfl) (fun _ _ _ h => h) (Or.inl ⟨by rfl, ?_⟩) (by assumption) ?_
  rotate_left 1
  · intro W' hSw
    obtain ⟨⟨hS1, hS2⟩, hS3, hS4⟩ := hSw
    go_simp
    try with_reducible rfl
  try simp only [Act.put, List.setIfInBounds_toArray, List.set_cons_zero, List.set_cons_succ]
  refine wpAnyH_ready (rs := [10]) (by kernel_rfl) (by simp) ?_
  refine AllReadyH.cons (o := ⟨_, _, _, _, _, _⟩) rfl (fun K' hK => ?_) AllReadyH.nil
  go_simp
  refine hed.mono ?_
  rintro en V8 ⟨code, ix, R', rfl, hBt, hSt8⟩
  dsimp only
  have hS8b : (blk V8 bs = some CS2 ∧ blk V8 bi = some CI) ∧ blk V8 b3 = some IE ∧ blk V8 b6 = some (arr i64v TT) := by
    obtain ⟨O8, hF8, hS8⟩ := hSt8
    have hF8' : Fr (isS g) Ox V5 O8 V8 := (Fr.of_extends (L := isS g) (extd V5)).trans hF8
    obtain ⟨q1, -, -, q4, q5, -⟩ := HSTB.out _ _ (hF8'.mono (fun l e => isI_S e))
    exact ⟨⟨q5, (HMI.out.sto hF8' hS8).cell⟩, q1, q4⟩
  refine hK.out _ _ hS8b (fun hHeld => ?_)
  clear hK K'
  try simp only [Act.put, List.setIfInBounds_toArray, List.set_cons_zero, List.set_cons_succ]
  refine wpAnyH_take (i := 11) (oi := ⟨_, _, _, _, _, _⟩) (v := ?_) rfl (by kernel_rfl) (by kernel_rfl) (by kernel_rfl) (fun _ _ _ h => h) (Or.inl ⟨by rfl, ?_⟩) (by assumption) ?_
  rotate_left 1
  · intro W' hSw
    obtain ⟨⟨hS1, hS2⟩, hS3, hS4⟩ := hSw
    go_simp
    try with_reducible rfl
  try simp only [Act.put, List.setIfInBounds_toArray, List.set_cons_zero, List.set_cons_succ]
  refine wpAnyH_done (by kernel_rfl) ?_ _
  obtain ⟨O8, hF8, hS8⟩ := hSt8
  have hF8' : Fr (isS g) Ox V5 O8 V8 := (Fr.of_extends (L := isS g) (extd V5)).trans hF8
  have hm8 := HMI.out.sto hF8' hS8
  have hFI : Fr (isI g) Ox V5 O8 V8 := hF8'.mono (fun l e => isI_S e)
  have hsz8 := hFI.size
  have hM8 := HM5.out.swap hFI (Nat.le_trans HB2.out hsz8) ⟨_, _, _, _, hm8⟩
  have HM8 := hid_of hM8
  have HF8 := hid_of hFI
  have HI8 : Hid (InsAt B2 O8 V8 g bi ⟨t.p, t.N, R', t.U, t.live⟩) := ⟨_, _, _, _, hm8⟩
  have HBT := hid_of hBt
  clear hed hF8 hS8 hF8' hm8 hFI hM8 hBt hSd hS8b
  by_cases hc1 : code = 0
  rotate_left 1
  · have hrf := refuse_any V8 3 code
    have hcb : (code != 0) = true := by simp [hc1]
    have eR : R' = t.R := (HBT.out.inv HOK.out.inv HOK.out.cap).2.2 hc1
    have HRP : Hid (∀ V, V8.Extends V → Q (.returned (.agg (Reply.enc (repZ code 3 (-1))).toArray)) (put V b4 (Reply.enc (repZ code 3 (-1))))) := fun V hx => by
      have hG := Fr.grow (L := fun _ => False) (O := O8) hx
      refine HFIN.out _ V _ ⟨some t, s.img, 3, s.calls + 1, s.rst⟩ CS2 ((HFW.out.trans (HF8.out.mono (fun _ e => .inr e))).trans (hG.mono (fun _ e => e.elim))) ?_ ?_ (.inr ⟨HCU.out, code, ix, R', ?_, .inl ⟨hc1, rfl, rfl⟩⟩)
      · have h9 := HM8.out.frF hG
        rw [eR] at h9
        exact h9
      · exact (hG.keep b4 (blk_lt (HSTB.out _ _ HF8.out).2.1)).trans (HSTB.out _ _ HF8.out).2.2.2.2.2
      · unfold rmC; rw [← HTT.out]; exact HBT.out
    have rl := Reply.length_enc (repZ code 3 (-1))
    have ro := Reply.ok_enc (repZ code 3 (-1))
    have rs := Reply.all_set Reply.zero (repZ code 3 (-1))
    obtain ⟨RE, hRE⟩ : ∃ RE, RE = Reply.enc (repZ code 3 (-1)) := ⟨_, rfl⟩
    rw [← hRE] at hrf HRP rl ro rs
    have HB4 : Hid (blk V8 b4 = some Reply.zero.enc ∧ free V8 b4 = true) := ⟨(HSTB.out _ _ HF8.out).2.1, (HSTB.out _ _ HF8.out).2.2.1⟩
    clear hc1 hRE eR
    go_wp2_with fail
    refine hrf.mono ?_
    rintro e V9 ⟨rfl, hx9⟩
    have hb4 := (hx9.blk (blk_lt HB4.out.1)).trans HB4.out.1
    have hf4 := (free_of_heap (hx9.block b4 (blk_lt HB4.out.1))).trans HB4.out.2
    have HP := hid_of (HRP.out V9 hx9)
    clear hrf hx9 HRP
    dsimp only
    go_wp2_with fail
    refine ret_cell (C := RE) rfl rfl ?_ (by kernel_rfl) (by rw [rl]; kernel_rfl) rfl HP.out
    first | (rw [blk_put, if_pos rfl, hb4]; rfl) | (simp only [blk_put, if_true, hb4, Option.map_some]; try rfl)
  subst hc1
  have htk : TOk TT := HBT.out.tok (basR_inv HOK.out.inv) (fun ch hch => by
    rw [List.mem_singleton] at hch
    subst hch
    exact ⟨by show (0 : Int) ≤ (pr : Int); omega, by show ((pr : Int)).toNat < _; have := HPR.out; omega, (fun e => nomatch e)⟩) ⟨true, (pr : Int), TT⟩ List.mem_cons_self
  obtain ⟨k3, k4, kf, k6, ks, -⟩ := HSTB.out _ _ HF8.out
  have hst := settleI_any (W := V8.drew) (HI8.out.ext (extd V8)) HOK.out.pok (M := M) HU.out hM ⟨true, (pr : Int), TT⟩ pr rfl HPR.out htk
  have hSd : blk V8.drew bs = some CS2 ∧ blk V8.drew b3 = some IE ∧ blk V8.drew b6 = some (arr i64v TT) := ⟨ks, k3, k6⟩
  clear htk k3 k4 kf k6 ks
  go_upto_region 9 with fail
  refine wp_region_held_drew (S := fun W' => blk W' bs = some CS2 ∧ blk W' b3 = some IE ∧ blk W' b6 = some (arr i64v TT)) (by kernel_rfl) hSd (fun hHeld => ?_)
  refine wpAnyH_take (i := 0) (oi := ⟨_, _, _, _, _, _⟩) (v := ?_) rfl (by kernel_rfl) (by kernel_rfl) (by kernel_rfl) (fun _ _ _ h => h) (Or.inl ⟨by rfl, ?_⟩) (by assumption) ?_
  rotate_left 1
  · intro W' hSw
    obtain ⟨hS1, hS2, hS3⟩ := hSw
    go_simp
    try with_reducible rfl
  try simp only [Act.put, List.setIfInBounds_toArray, List.set_cons_zero, List.set_cons_succ]
  refine wpAnyH_take (i := 1) (oi := ⟨_, _, _, _, _, _⟩) (v := ?_) rfl (by kernel_rfl) (by kernel_rfl) (by kernel_rfl) (fun _ _ _ h => h) (Or.inl ⟨by rfl, ?_⟩) (by assumption) ?_
  rotate_left 1
  · intro W' hSw
    obtain ⟨hS1, hS2, hS3⟩ := hSw
    go_simp
    try with_reducible rfl
  try simp only [Act.put, List.setIfInBounds_toArray, List.set_cons_zero, List.set_cons_succ]
  refine wpAnyH_take (i := 2) (oi := ⟨_, _, _, _, _, _⟩) (v := ?_) rfl (by kernel_rfl) (by kernel_rfl) (by kernel_rfl) (fun _ _ _ h => h) (Or.inl ⟨by rfl, ?_⟩) (by assumption) ?_
  rotate_left 1
  · intro W' hSw
    obtain ⟨hS1, hS2, hS3⟩ := hSw
    go_simp
    try with_reducible rfl
  try simp only [Act.put, List.setIfInBounds_toArray, List.set_cons_zero, List.set_cons_succ]
  refine wpAnyH_take (i := 3) (oi := ⟨_, _, _, _, _, _⟩) (v := ?_) rfl (by kernel_rfl) (by kernel_rfl) (by kernel_rfl) (fun _ _ _ h => h) (Or.inl ⟨by rfl, ?_⟩) (by assumption) ?_
  rotate_left 1
  · intro W' hSw
    obtain ⟨hS1, hS2, hS3⟩ := hSw
    go_simp
    try with_reducible rfl
  try simp only [Act.put, List.setIfInBounds_toArray, List.set_cons_zero, List.set_cons_succ]
  refine wpAnyH_take (i := 4) (oi := ⟨_, _, _, _, _, _⟩) (v := ?_) rfl (by kernel_rfl) (by kernel_rfl) (by kernel_rfl) (fun _ _ _ h => h) (Or.inl ⟨by rfl, ?_⟩) (by assumption) ?_
  rotate_left 1
  · intro W' hSw
    obtain ⟨hS1, hS2, hS3⟩ := hSw
    go_simp
    try with_reducible rfl
  try simp only [Act.put, List.setIfInBounds_toArray, List.set_cons_zero, List.set_cons_succ]
  refine wpAnyH_take (i := 5) (oi := ⟨_, _, _, _, _, _⟩) (v := ?_) rfl (by kernel_rfl) (by kernel_rfl) (by kernel_rfl) (fun _ _ _ h => h) (Or.inl ⟨by rfl, ?_⟩) (by assumption) ?_
  rotate_left 1
  · intro W' hSw
    obtain ⟨hS1, hS2, hS3⟩ := hSw
    go_simp
    try with_reducible rfl
  try simp only [Act.put, List.setIfInBounds_toArray, List.set_cons_zero, List.set_cons_succ]
  refine wpAnyH_take (i := 6) (oi := ⟨_, _, _, _, _, _⟩) (v := ?_) rfl (by kernel_rfl) (by kernel_rfl) (by kernel_rfl) (fun _ _ _ h => h) (Or.inl ⟨by rfl, ?_⟩) (by assumption) ?_
  rotate_left 1
  · intro W' hSw
    obtain ⟨hS1, hS2, hS3⟩ := hSw
    go_simp
    try with_reducible rfl
  try simp only [Act.put, List.setIfInBounds_toArray, List.set_cons_zero, List.set_cons_succ]
  refine wpAnyH_take (i := 7) (oi := ⟨_, _, _, _, _, _⟩) (v := ?_) rfl (by kernel_rfl) (by kernel_rfl) (by kernel_rfl) (fun _ _ _ h => h) (Or.inl ⟨by rfl, ?_⟩) (by assumption) ?_
  rotate_left 1
  · intro W' hSw
    obtain ⟨hS1, hS2, hS3⟩ := hSw
    go_simp
    try with_reducible rfl
  try simp only [Act.put, List.setIfInBounds_toArray, List.set_cons_zero, List.set_cons_succ]
  refine wpAnyH_ready (rs := [8]) (by kernel_rfl) (by simp) ?_
  refine AllReadyH.cons (o := ⟨_, _, _, _, _, _⟩) rfl (fun K' hK => ?_) AllReadyH.nil
  go_simp
  refine hst.mono ?_
  rintro en V9 ⟨rfl, hIo⟩
  dsimp only
  have hS9 : blk V9 bs = some CS2 ∧ blk V9 b3 = some IE ∧ blk V9 b6 = some (arr i64v TT) := by
    obtain ⟨O9, hF9, -⟩ := hIo
    have hFJ : Fr (isI g) O8 V8 O9 V9 := (Fr.of_extends (L := isI g) (extd V8)).trans hF9
    obtain ⟨q1, -, -, q4, q5, -⟩ := HSTB.out _ _ (HF8.out.trans hFJ)
    exact ⟨q5, q1, q4⟩
  refine hK.out _ _ hS9 (fun hHeld => ?_)
  clear hK K'
  try simp only [Act.put, List.setIfInBounds_toArray, List.set_cons_zero, List.set_cons_succ]
  refine wpAnyH_done (by kernel_rfl) ?_ _
  obtain ⟨O9, hF9, hI9⟩ := hIo
  have hFJ : Fr (isI g) O8 V8 O9 V9 := (Fr.of_extends (L := isI g) (extd V8)).trans hF9
  have hM9 := HM8.out.swap hFJ (Nat.le_trans HB2.out (Nat.le_trans hsz8 hFJ.size)) hI9
  have HM9 := hid_of hM9
  have HFK : Hid (Fr (isI g) Ox V5 O9 V9) := hid_of (HF8.out.trans hFJ)
  clear hst hF9 hI9 hFJ hM9 hSd hS9
  have hac := accept_any V9 3
  have HRP : Hid (∀ V, V9.Extends V → Q (.returned (.agg (Reply.enc (repZ 0 3 (-1))).toArray)) (put V b4 (Reply.enc (repZ 0 3 (-1))))) := fun V hx => by
    have hG := Fr.grow (L := fun _ => False) (O := O9) hx
    refine HFIN.out _ V _ _ CS2 ((HFW.out.trans (HFK.out.mono (fun _ e => .inr e))).trans (hG.mono (fun _ e => e.elim))) (HM9.out.frF hG) ?_ (.inr ⟨HCU.out, 0, ix, R', ?_, .inr ⟨rfl, rfl, ?_⟩⟩)
    · exact (hG.keep b4 (blk_lt (HSTB.out _ _ HFK.out).2.1)).trans (HSTB.out _ _ HFK.out).2.2.2.2.2
    · unfold rmC; rw [← HTT.out]; exact HBT.out
    · unfold rmC; rw [← HTT.out]
  have rl := Reply.length_enc (repZ 0 3 (-1))
  have ro := Reply.ok_enc (repZ 0 3 (-1))
  have rs := Reply.all_set Reply.zero (repZ 0 3 (-1))
  obtain ⟨RE, hRE⟩ : ∃ RE, RE = Reply.enc (repZ 0 3 (-1)) := ⟨_, rfl⟩
  rw [← hRE] at hac HRP rl ro rs
  have HB4 : Hid (blk V9 b4 = some Reply.zero.enc ∧ free V9 b4 = true) := ⟨(HSTB.out _ _ HFK.out).2.1, (HSTB.out _ _ HFK.out).2.2.1⟩
  clear hRE
  go_wp2_with fail
  refine hac.mono ?_
  rintro e V10 ⟨rfl, hx10⟩
  have hb4 := (hx10.blk (blk_lt HB4.out.1)).trans HB4.out.1
  have hf4 := (free_of_heap (hx10.block b4 (blk_lt HB4.out.1))).trans HB4.out.2
  have HP := hid_of (HRP.out V10 hx10)
  clear hac hx10 HRP
  dsimp only
  go_wp2_with fail
  refine ret_cell (C := RE) rfl rfl ?_ (by kernel_rfl) (by rw [rl]; kernel_rfl) rfl HP.out
  first | (rw [blk_put, if_pos rfl, hb4]; rfl) | (simp only [blk_put, if_true, hb4, Option.map_some]; try rfl)
end Go.Proofs.Qxb6500787aGreat
