import Derived.Test.Qxb6500787aGreatFd
import Derived.Test.Qxb6500787aGreatFa
import Derived.Test.Qxb6500787aGreatEj
import Derived.Test.Qxb6500787aGreatBg

import Derived.StillTailTactics
import Derived.Deep.QuietTactic
import Derived.BigQuiet
import Derived.Deep.RegionHeld
import Derived.Deep.CutRange
import Derived.Laws.ResultCell
import Derived.Laws.Rows
import Derived.DeepKeys
import Derived.DataBytes
import Derived.Laws.StructEq
import Derived.Laws.AppendOwn
import Derived.Laws.MakeOwn
import Derived.Lib.AppendStr
set_option linter.unusedSimpArgs false
set_option linter.unusedVariables false
namespace Go.Proofs.Qxb6500787aGreat
open Go.RowKit Go.Blk
attribute [local go_sem ↓] execOp_load execOp_store execOp_alloc
attribute [local go_sem] Tryz.ld26 Tryz.st26 Tryz.ld27 Tryz.st27 Tryz.ld28 Tryz.st28 Tryz.ld3 Tryz.st3 Tryz.ld29 Tryz.st29 Tryz.ld44 Tryz.st44 Tryz.ld4 Tryz.st4 Tryz.ld50 Tryz.st50 Tryz.ld32 Tryz.st32 Tryz.ld49 Tryz.st49 Tryz.ld68 Tryz.st68 Tryz.ld9 Tryz.st9 Tryz.ld40 Tryz.st40 Tryz.ld138 Tryz.st138 Tryz.ld139 Tryz.st139 Tryz.ld146 Tryz.st146 Tryz.ld183 Tryz.st183 Tryz.ld184 Tryz.st184 Tryz.ld192 Tryz.st192 Tryz.ld195 Tryz.st195 Tryz.ld217 Tryz.st217 Tryz.ld159 Tryz.st159 Tryz.ld142 Tryz.st142 Tryz.ld2 Tryz.st2 Tryz.ld5 Tryz.st5 Tryz.ld12 Tryz.st12 Tryz.ld21 Tryz.st21 Tryz.ld22 Tryz.st22 Tryz.ld24 Tryz.st24 Tryz.ld58 Tryz.st58 Tryz.ld97 Tryz.st97 Tryz.ld101 Tryz.st101 Tryz.ld116 Tryz.st116 Tryz.ld121 Tryz.st121 Tryz.ld135 Tryz.st135 Tryz.ld136 Tryz.st136 Tryz.ld143 Tryz.st143 Tryz.ld148 Tryz.st148 Tryz.ld154 Tryz.st154 Tryz.ld173 Tryz.st173 Tryz.ld187 Tryz.st187 Tryz.ld222 Tryz.st222 Tryz.ld241 Tryz.st241 Tryz.ld248 Tryz.st248 Tryz.ld268 Tryz.st268 Tryz.ld272 Tryz.st272 Tryz.ld153 Tryz.st153 Tryz.ld255 Tryz.st255 Tryz.ld256 Tryz.st256 Tryz.ld129 Tryz.st129 Tryz.ld152 Tryz.st152 Tryz.ld31 Tryz.st31 Tryz.ld46 Tryz.st46 Tryz.ld52 Tryz.st52 Tryz.ld54 Tryz.st54 Tryz.ld60 Tryz.st60 Tryz.ld70 Tryz.st70 Tryz.ld74 Tryz.st74 Tryz.ld93 Tryz.st93 Tryz.ld141 Tryz.st141 Tryz.ld151 Tryz.st151 Tryz.ld170 Tryz.st170 Tryz.ld186 Tryz.st186 Tryz.ld189 Tryz.st189 Tryz.ld194 Tryz.st194 Tryz.ld197 Tryz.st197 Tryz.ld219 Tryz.st219 Tryz.ld224 Tryz.st224 Tryz.ld230 Tryz.st230 Tryz.ld235 Tryz.st235 Tryz.ld243 Tryz.st243 Tryz.ld247 Tryz.st247 Tryz.ld252 Tryz.st252 Tryz.ld258 Tryz.st258 Tryz.al153 Tryz.al255 Tryz.al256 Tryz.al129 Tryz.al152 Tryz.al31 Tryz.al46 Tryz.al52 Tryz.al54 Tryz.al60 Tryz.al70 Tryz.al74 Tryz.al93 Tryz.al141 Tryz.al151 Tryz.al170 Tryz.al186 Tryz.al189 Tryz.al194 Tryz.al197 Tryz.al219 Tryz.al224 Tryz.al230 Tryz.al235 Tryz.al243 Tryz.al247 Tryz.al252 Tryz.al258
attribute [local go_sem] Request.length_enc Request.ok_enc Request.all_get Request.all_set Request.kind_get Request.kind_set Request.blob_get Request.blob_set Request.items_get Request.items_set Request.pred_get Request.pred_set Request.slots_get Request.slots_set Trace.length_enc Trace.ok_enc Trace.all_get Trace.all_set Trace.op_get Trace.op_set Trace.calls_get Trace.calls_set Item.length_enc Item.ok_enc Item.all_get Item.all_set Item.del_get Item.del_set Item.pred_get Item.pred_set Item.args_get Item.args_set Reply.length_enc Reply.ok_enc Reply.all_get Reply.all_set Reply.code_get Reply.code_set Reply.kind_get Reply.kind_set Reply.index_get Reply.index_set Reply.yes_get Reply.yes_set Reply.preds_get Reply.preds_set Reply.rules_get Reply.rules_set Reply.arity_get Reply.arity_set Reply.rows_get Reply.rows_set Reply.fact_get Reply.fact_set Reply.fact_del_get Reply.fact_del_set Reply.fact_pred_get Reply.fact_pred_set Reply.fact_args_get Reply.fact_args_set GEntry.length_enc GEntry.ok_enc GEntry.all_get GEntry.all_set GEntry.seq_get GEntry.seq_set GEntry.kind_get GEntry.kind_set GEntry.code_get GEntry.code_set GOp.length_enc GOp.ok_enc GOp.all_get GOp.all_set GOp.kind_get GOp.kind_set GOp.raw_get GOp.raw_set Reader.length_enc Reader.ok_enc Reader.all_get Reader.all_set Reader.buf_get Reader.buf_set Reader.at__get Reader.at__set Slot.length_enc Slot.ok_enc Slot.all_get Slot.all_set Slot.bound_get Slot.bound_set Slot.name_get Slot.name_set Session.length_enc Session.ok_enc Session.all_get Session.all_set Session.svc_get Session.svc_set Session.buf_get Session.buf_set Session.closed_get Session.closed_set GProgram.length_enc GProgram.ok_enc GProgram.all_get GProgram.all_set GProgram.pool_get GProgram.pool_set GProgram.preds_get GProgram.preds_set GProgram.rules_get GProgram.rules_set GProgram.strata_get GProgram.strata_set PredInfo.length_enc PredInfo.ok_enc PredInfo.all_get PredInfo.all_set PredInfo.arity_get PredInfo.arity_set PredInfo.base_get PredInfo.base_set PredInfo.stratum_get PredInfo.stratum_set Change.length_enc Change.ok_enc Change.all_get Change.all_set Change.del_get Change.del_set Change.pred_get Change.pred_set Change.t_get Change.t_set Store.length_enc Store.ok_enc Store.all_get Store.all_set Store.names_get Store.names_set Store.arity_get Store.arity_set Store.rows_get Store.rows_set Src.length_enc Src.ok_enc Src.all_get Src.all_set Src.b_get Src.b_set Src.at__get Src.at__set Atom.length_enc Atom.ok_enc Atom.all_get Atom.all_set Atom.pred_get Atom.pred_set Atom.args_get Atom.args_set GRule.length_enc GRule.ok_enc GRule.all_get GRule.all_set GRule.head_get GRule.head_set GRule.body_get GRule.body_set GRule.head_pred_get GRule.head_pred_set GRule.head_args_get GRule.head_args_set Cert.length_enc Cert.ok_enc Cert.all_get Cert.all_set Cert.names_get Cert.names_set Cert.nodes_get Cert.nodes_set Fact.length_enc Fact.ok_enc Fact.all_get Fact.all_set Fact.pred_get Fact.pred_set Fact.t_get Fact.t_set Literal.length_enc Literal.ok_enc Literal.all_get Literal.all_set Literal.neg_get Literal.neg_set Literal.atom_get Literal.atom_set Literal.atom_pred_get Literal.atom_pred_set Literal.atom_args_get Literal.atom_args_set Engine.length_enc Engine.ok_enc Engine.all_get Engine.all_set Engine.prog_get Engine.prog_set Engine.st_get Engine.st_set SrcCertm.length_enc SrcCertm.ok_enc SrcCertm.all_get SrcCertm.all_set SrcCertm.b_get SrcCertm.b_set SrcCertm.at__get SrcCertm.at__set GNode.length_enc GNode.ok_enc GNode.all_get GNode.all_set GNode.rule_get GNode.rule_set GNode.pred_get GNode.pred_set GNode.vals_get GNode.vals_set GNode.refs_get GNode.refs_set Term.length_enc Term.ok_enc Term.all_get Term.all_set Term.var_get Term.var_set Term.n_get Term.n_set Env.length_enc Env.ok_enc Env.all_get Env.all_set Env.val_get Env.val_set Env.set_get Env.set_set
attribute [local go_sem] size_put size_ext blk_put free_put blk_alloc free_alloc blk_drew free_drew blk_ext free_ext lookOr_some putOr_some segAt_some cellAt_some storeIn_some put_put put_alloc_new length_arr ok_arr_u8 ok_arr_u32 ok_arr_u64 ok_arr_i64 ok_arr_sl cellsV_agg cellsV_int cellsV_bool cellsV_string cellsV_pointer cellsV_slice cellsV_sl ok_int ok_bool ok_string ok_pointer ok_slice ok_sl toList_arr seg_arr set_arr nth_splice nth_splice0 seg_splice seg_splice0 splice_splice splice_splice0 length_splice_if
attribute [local go_sem ↓] execOp_box
attribute [local go_sem] box_run nth_arr_u8 put_arr_u8 blk_drewN free_drewN put_drewN blk_raw free_raw
/-- Labels of the first service when a second one is made: the model's block becomes constant. -/
noncomputable def zO1 (O : Own) (n bm : Nat) : Own := fun k => if k = n then .a 5 70 else if n < k then .no else if k = bm then .no else O k
open Classical in
noncomputable def zO2 (O : Own) (n bm : Nat) : Own := fun k => if k = n then .a 0 0 else if n < k then .no else if k = bm then .no else if O k = .no then .no else .a 5 71
theorem zO1_lt {O : Own} {n bm k : Nat} (h : k < n) (hb : k ≠ bm) : zO1 O n bm k = O k := by unfold zO1; rw [if_neg (by omega), if_neg (by omega), if_neg hb]
theorem zO1_n (O : Own) (n bm : Nat) : zO1 O n bm n = .a 5 70 := if_pos rfl
theorem zO1_bm {O : Own} {n bm : Nat} (h : bm < n) : zO1 O n bm bm = .no := by unfold zO1; rw [if_neg (by omega), if_neg (by omega), if_pos rfl]
theorem zO1_gt {O : Own} {n bm k : Nat} (h : n < k) : zO1 O n bm k = .no := by unfold zO1; rw [if_neg (by omega), if_pos h]
theorem zO2_n (O : Own) (n bm : Nat) : zO2 O n bm n = .a 0 0 := if_pos rfl
theorem zO2_bm {O : Own} {n bm : Nat} (h : bm < n) : zO2 O n bm bm = .no := by unfold zO2; rw [if_neg (by omega), if_neg (by omega), if_pos rfl]
theorem zO2_gt {O : Own} {n bm k : Nat} (h : n < k) : zO2 O n bm k = .no := by unfold zO2; rw [if_neg (by omega), if_pos h]
theorem zO2_no {O : Own} {n bm k : Nat} (h : k < n) (hb : k ≠ bm) (hO : O k = .no) : zO2 O n bm k = .no := by unfold zO2; rw [if_neg (by omega), if_neg (by omega), if_neg hb, if_pos hO]
theorem zO2_own {O : Own} {n bm k : Nat} (h : k < n) (hb : k ≠ bm) (hO : O k ≠ .no) : zO2 O n bm k = .a 5 71 := by unfold zO2; rw [if_neg (by omega), if_neg (by omega), if_neg hb, if_neg hO]
theorem z_cases (n bm k : Nat) (h : bm < n) : k = n ∨ n < k ∨ k = bm ∨ (k < n ∧ k ≠ bm) := by omega
/-- A fresh service beside the old one; the model lies still. -/
theorem tw_fresh {Ob : Own} {Wb : World} {bs bm : Nat} {M : Int} {s : Sv} {m : MS} {O : Own} {g : Nat} {V : World} (h : JM Ob Wb bs bm M s m O g V) {V' : World} (hx : V.Extends V') (hb : blk V' V.heap.size = some newE) (hf : free V' V.heap.size = true) : Tw (zO1 O V.heap.size bm) V' bs V.heap.size M 1000 s Sv.zero (zO1 O V.heap.size bm) (zO2 O V.heap.size bm) g 0 V' := by
  obtain ⟨Ce, fa, fc, hMo⟩ := h.mo
  have hbm := blk_lt hMo.cell
  have hob := hMo.own
  obtain ⟨CS, ip, ia, iN, ic, hS⟩ := h.ls.sv
  have hg := hS.gl
  have k70 : kept (.a 5 70) := .inr ⟨5, 70, rfl, Nat.le_refl _⟩
  have k71 : kept (.a 5 71) := .inr ⟨5, 71, rfl, Nat.le_refl _⟩
  have hfr1 : ∀ k, ¬ isI (1 - g) (zO1 O V.heap.size bm k) ∧ zO1 O V.heap.size bm k ≠ .a 0 8 := fun k => by
    rcases z_cases V.heap.size bm k hbm with rfl | e | rfl | ⟨e1, e2⟩
    · rw [zO1_n]; exact ⟨isI_5 (by omega), fun e => by cases e⟩
    · rw [zO1_gt e]; exact ⟨isI_no _, fun e => by cases e⟩
    · rw [zO1_bm hbm]; exact ⟨isI_no _, fun e => by cases e⟩
    · rw [zO1_lt e1 e2]; exact h.ls.fr k
  have hlo1 : Low (zO1 O V.heap.size bm) := fun k i j e => by
    rcases z_cases V.heap.size bm k hbm with rfl | e0 | rfl | ⟨e1, e2⟩
    · rw [zO1_n] at e; have := (Lab.a.inj e).1; omega
    · rw [zO1_gt e0] at e; cases e
    · rw [zO1_bm hbm] at e; cases e
    · rw [zO1_lt e1 e2] at e; exact h.ls.lo k i j e
  have hfr2 : ∀ k, ¬ isI (1 - 0) (zO2 O V.heap.size bm k) ∧ zO2 O V.heap.size bm k ≠ .a 0 8 := fun k => by
    rcases z_cases V.heap.size bm k hbm with rfl | e | rfl | ⟨e1, e2⟩
    · rw [zO2_n]; exact ⟨isI_0 _, fun e => by cases e⟩
    · rw [zO2_gt e]; exact ⟨isI_no _, fun e => by cases e⟩
    · rw [zO2_bm hbm]; exact ⟨isI_no _, fun e => by cases e⟩
    · by_cases e3 : O k = .no
      · rw [zO2_no e1 e2 e3]; exact ⟨isI_no _, fun e => by cases e⟩
      · rw [zO2_own e1 e2 e3]; exact ⟨isI_5 (by omega), fun e => by cases e⟩
  have hlo2 : Low (zO2 O V.heap.size bm) := fun k i j e => by
    rcases z_cases V.heap.size bm k hbm with rfl | e0 | rfl | ⟨e1, e2⟩
    · rw [zO2_n] at e; have := (Lab.a.inj e).1; omega
    · rw [zO2_gt e0] at e; cases e
    · rw [zO2_bm hbm] at e; cases e
    · by_cases e3 : O k = .no
      · rw [zO2_no e1 e2 e3] at e; cases e
      · rw [zO2_own e1 e2 e3] at e; have := (Lab.a.inj e).1; omega
  have hS1 : SvM (zO1 O V.heap.size bm) V' bs g s CS ip ia iN ic := hS.move hx.os hx.tape hx.output hx.size (fun k hk hh => by
    have hne : k ≠ bm := by
      rintro rfl
      rw [hob] at hh
      rcases hh with e | e | e
      · cases e
      · cases e
      · exact isI_5 hg e
    exact ⟨zO1_lt hk hne, hx.block k hk⟩)
  refine ⟨rfl, rfl, rfl, Nat.le_refl _, fun k _ ho => ⟨ho, rfl⟩, ⟨Kp.refl _ _, ⟨_, _, _, _, _, hS1⟩, hfr1, hlo1, h.ls.inv⟩, ⟨Kp.refl _ _, ⟨newE, none, none, 0, 0, hb, hf, zO2_n _ _ _, newE_c, ⟨rfl, fun h => absurd rfl h, .inl rfl⟩, by omega, fun _ => ⟨rfl, rfl, rfl⟩, fun t h => by cases h⟩, hfr2, hlo2, svI_zero⟩, fun k _ => ?_, fun k _ hh => ?_, fun k _ hh => ?_⟩
  · rcases z_cases V.heap.size bm k hbm with rfl | e0 | rfl | ⟨e1, e2⟩
    · rw [zO1_n, zO2_n]; exact ⟨(fun e => by cases e), (fun e => by cases e)⟩
    · rw [zO1_gt e0, zO2_gt e0]
    · rw [zO1_bm hbm, zO2_bm hbm]
    · by_cases e3 : O k = .no
      · rw [zO1_lt e1 e2, zO2_no e1 e2 e3, e3]
      · rw [zO1_lt e1 e2, zO2_own e1 e2 e3]; exact ⟨fun e => absurd e e3, fun e => by cases e⟩
  · rcases z_cases V.heap.size bm k hbm with rfl | e0 | rfl | ⟨e1, e2⟩
    · rw [zO1_n] at hh
      rcases hh with e | e
      · cases e
      · exact absurd e (isI_5 hg)
    · rw [zO1_gt e0] at hh
      rcases hh with e | e
      · cases e
      · exact absurd e (isI_no _)
    · rw [zO1_bm hbm] at hh
      rcases hh with e | e
      · cases e
      · exact absurd e (isI_no _)
    · have e3 : O k ≠ .no := fun e => by
        rw [zO1_lt e1 e2, e] at hh
        rcases hh with e | e
        · cases e
        · exact isI_no _ e
      rw [zO2_own e1 e2 e3]; exact k71
  · rcases z_cases V.heap.size bm k hbm with rfl | e0 | rfl | ⟨e1, e2⟩
    · rw [zO1_n]; exact k70
    · rw [zO2_gt e0] at hh
      rcases hh with e | e
      · cases e
      · exact absurd e (isI_no _)
    · rw [zO2_bm hbm] at hh
      rcases hh with e | e
      · cases e
      · exact absurd e (isI_no _)
    · by_cases e3 : O k = .no
      · rw [zO2_no e1 e2 e3] at hh
        rcases hh with e | e
        · cases e
        · exact absurd e (isI_no _)
      · rw [zO2_own e1 e2 e3] at hh
        rcases hh with e | e
        · cases e
        · exact absurd e (isI_5 (by omega))
theorem zO1_core {O : Own} {V V' : World} {bm : Nat} (hbo : O bm ≠ .no) (hx : V.Extends V') : Sub (core O V) (core (zO1 O V.heap.size bm) V') := Sub.cores fun b C hb ho => ⟨(hx.blk (blk_lt hb)).trans hb, by rw [zO1_lt (blk_lt hb) (fun e => hbo (by rw [← e]; exact ho))]; exact ho⟩
/-- The facts put into a fresh service, row by row. -/
structure FrI (m : MS) (p i : Nat) (F' : List (List NRow)) : Prop where
  len : F'.length = m.p.preds.length
  mem : ∀ q r, memN F' q r ↔ (q < p ∧ memN m.F q r) ∨ (q = p ∧ r ∈ (zsR (m.F.getD p [])).take i)
theorem FrI.zero (m : MS) : FrI m 0 0 (List.replicate m.p.preds.length []) := ⟨List.length_replicate, fun q r => by
  constructor
  · intro h
    have h' : r ∈ (List.replicate m.p.preds.length ([] : List NRow)).getD q [] := h
    rw [fac_empty] at h'; cases h'
  · rintro (⟨h, -⟩ | ⟨-, h⟩)
    · omega
    · cases h⟩
theorem FrI.next {m : MS} (hI : MsI m) {p i : Nat} {F' : List (List NRow)} (h : FrI m p i F') (hi : (zsR (m.F.getD p [])).length ≤ i) (hl : ∀ r ∈ m.F.getD p [], r.length = arP m.p p) : FrI m (p + 1) 0 F' := by
  obtain ⟨hp, -⟩ := zsR_strict (n := arP m.p p) hl (hI.nd p)
  refine ⟨h.len, fun q r => ?_⟩
  rw [h.mem q r, List.take_of_length_le hi, hp.mem_iff]
  constructor
  · rintro (⟨h1, h2⟩ | ⟨rfl, h2⟩)
    · exact .inl ⟨by omega, h2⟩
    · exact .inl ⟨by omega, h2⟩
  · rintro (⟨h1, h2⟩ | ⟨-, h2⟩)
    · by_cases e : q = p
      · subst e; exact .inr ⟨rfl, h2⟩
      · exact .inl ⟨by omega, h2⟩
    · cases h2
theorem FrI.step {m : MS} (hI : MsI m) {p i : Nat} (hp : p < m.p.preds.length) {F' : List (List NRow)} (h : FrI m p i F') (hl : ∀ r ∈ m.F.getD p [], r.length = arP m.p p) {r : NRow} (hr : (zsR (m.F.getD p []))[i]? = some r) : r ∉ F'.getD p [] ∧ FrI m p (i + 1) (addRN F' p r) := by
  obtain ⟨hpm, -⟩ := zsR_strict (n := arP m.p p) hl (hI.nd p)
  have hnd : (zsR (m.F.getD p [])).Nodup := hpm.symm.nodup (hI.nd p)
  constructor
  · intro hm
    rcases (h.mem p r).1 hm with ⟨h1, -⟩ | ⟨-, h1⟩
    · omega
    · obtain ⟨j, hj⟩ := List.mem_iff_getElem?.1 h1
      rw [List.getElem?_take] at hj
      split at hj
      · rename_i hji
        obtain ⟨a1, a2⟩ := List.getElem?_eq_some_iff.1 hj
        obtain ⟨b1, b2⟩ := List.getElem?_eq_some_iff.1 hr
        exact List.pairwise_iff_getElem.1 hnd j i a1 b1 hji (a2.trans b2.symm)
      · cases hj
  · refine ⟨by unfold addRN; rw [List.length_set]; exact h.len, fun q x => ?_⟩
    rw [memN_add (by rw [h.len]; exact hp), h.mem q x, take_at hr, List.mem_append, List.mem_singleton]
    constructor
    · rintro ((h1 | ⟨h1, h2⟩) | ⟨h1, h2⟩)
      · exact .inl h1
      · exact .inr ⟨h1, .inl h2⟩
      · exact .inr ⟨h1, .inr h2⟩
    · rintro (h1 | ⟨h1, h2 | h2⟩)
      · exact .inl (.inl h1)
      · exact .inl (.inr ⟨h1, h2⟩)
      · exact .inr ⟨h1, h2⟩
theorem FrI.fin {m : MS} (hI : MsI m) {p : Nat} {F' : List (List NRow)} (h : FrI m p 0 F') (hp : m.p.preds.length ≤ p) : ∀ q r, memN F' q r ↔ memN m.F q r := fun q r => by
  rw [h.mem q r]
  constructor
  · rintro (⟨-, h2⟩ | ⟨-, h2⟩)
    · exact h2
    · cases h2
  · intro h2
    refine .inl ⟨?_, h2⟩
    have h3 : r ∈ m.F.getD q [] := h2
    rw [List.getD_eq_getElem?_getD] at h3
    cases hq : m.F[q]? with
    | none => rw [hq] at h3; cases h3
    | some L =>
      have := (List.getElem?_eq_some_iff.1 hq).1
      have := hI.len
      omega
end Go.Proofs.Qxb6500787aGreat
