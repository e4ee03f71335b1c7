import Derived.Test.Qxb6500787aGreatGq

import Derived.StillTailTactics
import Derived.Deep.QuietTactic
import Derived.BigQuiet
import Derived.Deep.RegionHeld
import Derived.Deep.CutRange
import Derived.Laws.ResultCell
import Derived.Laws.Rows
import Derived.DeepKeys
import Derived.DataBytes
import Derived.Laws.StructEq
import Derived.Laws.AppendOwn
import Derived.Laws.MakeOwn
import Derived.Lib.AppendStr
set_option linter.unusedSimpArgs false
set_option linter.unusedVariables false
namespace Go.Proofs.Qxb6500787aGreat
open Go.RowKit Go.Blk
attribute [local go_sem ↓] execOp_load execOp_store execOp_alloc
attribute [local go_sem] Tryz.ld26 Tryz.st26 Tryz.ld27 Tryz.st27 Tryz.ld28 Tryz.st28 Tryz.ld3 Tryz.st3 Tryz.ld29 Tryz.st29 Tryz.ld44 Tryz.st44 Tryz.ld4 Tryz.st4 Tryz.ld50 Tryz.st50 Tryz.ld32 Tryz.st32 Tryz.ld49 Tryz.st49 Tryz.ld68 Tryz.st68 Tryz.ld9 Tryz.st9 Tryz.ld40 Tryz.st40 Tryz.ld138 Tryz.st138 Tryz.ld139 Tryz.st139 Tryz.ld146 Tryz.st146 Tryz.ld183 Tryz.st183 Tryz.ld184 Tryz.st184 Tryz.ld192 Tryz.st192 Tryz.ld195 Tryz.st195 Tryz.ld217 Tryz.st217 Tryz.ld159 Tryz.st159 Tryz.ld142 Tryz.st142 Tryz.ld2 Tryz.st2 Tryz.ld5 Tryz.st5 Tryz.ld12 Tryz.st12 Tryz.ld21 Tryz.st21 Tryz.ld22 Tryz.st22 Tryz.ld24 Tryz.st24 Tryz.ld58 Tryz.st58 Tryz.ld97 Tryz.st97 Tryz.ld101 Tryz.st101 Tryz.ld116 Tryz.st116 Tryz.ld121 Tryz.st121 Tryz.ld135 Tryz.st135 Tryz.ld136 Tryz.st136 Tryz.ld143 Tryz.st143 Tryz.ld148 Tryz.st148 Tryz.ld154 Tryz.st154 Tryz.ld173 Tryz.st173 Tryz.ld187 Tryz.st187 Tryz.ld222 Tryz.st222 Tryz.ld241 Tryz.st241 Tryz.ld248 Tryz.st248 Tryz.ld268 Tryz.st268 Tryz.ld272 Tryz.st272 Tryz.ld153 Tryz.st153 Tryz.ld255 Tryz.st255 Tryz.ld256 Tryz.st256 Tryz.ld129 Tryz.st129 Tryz.ld152 Tryz.st152 Tryz.ld31 Tryz.st31 Tryz.ld46 Tryz.st46 Tryz.ld52 Tryz.st52 Tryz.ld54 Tryz.st54 Tryz.ld60 Tryz.st60 Tryz.ld70 Tryz.st70 Tryz.ld74 Tryz.st74 Tryz.ld93 Tryz.st93 Tryz.ld141 Tryz.st141 Tryz.ld151 Tryz.st151 Tryz.ld170 Tryz.st170 Tryz.ld186 Tryz.st186 Tryz.ld189 Tryz.st189 Tryz.ld194 Tryz.st194 Tryz.ld197 Tryz.st197 Tryz.ld219 Tryz.st219 Tryz.ld224 Tryz.st224 Tryz.ld230 Tryz.st230 Tryz.ld235 Tryz.st235 Tryz.ld243 Tryz.st243 Tryz.ld247 Tryz.st247 Tryz.ld252 Tryz.st252 Tryz.ld258 Tryz.st258 Tryz.al153 Tryz.al255 Tryz.al256 Tryz.al129 Tryz.al152 Tryz.al31 Tryz.al46 Tryz.al52 Tryz.al54 Tryz.al60 Tryz.al70 Tryz.al74 Tryz.al93 Tryz.al141 Tryz.al151 Tryz.al170 Tryz.al186 Tryz.al189 Tryz.al194 Tryz.al197 Tryz.al219 Tryz.al224 Tryz.al230 Tryz.al235 Tryz.al243 Tryz.al247 Tryz.al252 Tryz.al258
attribute [local go_sem] Request.length_enc Request.ok_enc Request.all_get Request.all_set Request.kind_get Request.kind_set Request.blob_get Request.blob_set Request.items_get Request.items_set Request.pred_get Request.pred_set Request.slots_get Request.slots_set Trace.length_enc Trace.ok_enc Trace.all_get Trace.all_set Trace.op_get Trace.op_set Trace.calls_get Trace.calls_set Item.length_enc Item.ok_enc Item.all_get Item.all_set Item.del_get Item.del_set Item.pred_get Item.pred_set Item.args_get Item.args_set Reply.length_enc Reply.ok_enc Reply.all_get Reply.all_set Reply.code_get Reply.code_set Reply.kind_get Reply.kind_set Reply.index_get Reply.index_set Reply.yes_get Reply.yes_set Reply.preds_get Reply.preds_set Reply.rules_get Reply.rules_set Reply.arity_get Reply.arity_set Reply.rows_get Reply.rows_set Reply.fact_get Reply.fact_set Reply.fact_del_get Reply.fact_del_set Reply.fact_pred_get Reply.fact_pred_set Reply.fact_args_get Reply.fact_args_set GEntry.length_enc GEntry.ok_enc GEntry.all_get GEntry.all_set GEntry.seq_get GEntry.seq_set GEntry.kind_get GEntry.kind_set GEntry.code_get GEntry.code_set GOp.length_enc GOp.ok_enc GOp.all_get GOp.all_set GOp.kind_get GOp.kind_set GOp.raw_get GOp.raw_set Reader.length_enc Reader.ok_enc Reader.all_get Reader.all_set Reader.buf_get Reader.buf_set Reader.at__get Reader.at__set Slot.length_enc Slot.ok_enc Slot.all_get Slot.all_set Slot.bound_get Slot.bound_set Slot.name_get Slot.name_set Session.length_enc Session.ok_enc Session.all_get Session.all_set Session.svc_get Session.svc_set Session.buf_get Session.buf_set Session.closed_get Session.closed_set GProgram.length_enc GProgram.ok_enc GProgram.all_get GProgram.all_set GProgram.pool_get GProgram.pool_set GProgram.preds_get GProgram.preds_set GProgram.rules_get GProgram.rules_set GProgram.strata_get GProgram.strata_set PredInfo.length_enc PredInfo.ok_enc PredInfo.all_get PredInfo.all_set PredInfo.arity_get PredInfo.arity_set PredInfo.base_get PredInfo.base_set PredInfo.stratum_get PredInfo.stratum_set Change.length_enc Change.ok_enc Change.all_get Change.all_set Change.del_get Change.del_set Change.pred_get Change.pred_set Change.t_get Change.t_set Store.length_enc Store.ok_enc Store.all_get Store.all_set Store.names_get Store.names_set Store.arity_get Store.arity_set Store.rows_get Store.rows_set Src.length_enc Src.ok_enc Src.all_get Src.all_set Src.b_get Src.b_set Src.at__get Src.at__set Atom.length_enc Atom.ok_enc Atom.all_get Atom.all_set Atom.pred_get Atom.pred_set Atom.args_get Atom.args_set GRule.length_enc GRule.ok_enc GRule.all_get GRule.all_set GRule.head_get GRule.head_set GRule.body_get GRule.body_set GRule.head_pred_get GRule.head_pred_set GRule.head_args_get GRule.head_args_set Cert.length_enc Cert.ok_enc Cert.all_get Cert.all_set Cert.names_get Cert.names_set Cert.nodes_get Cert.nodes_set Fact.length_enc Fact.ok_enc Fact.all_get Fact.all_set Fact.pred_get Fact.pred_set Fact.t_get Fact.t_set Literal.length_enc Literal.ok_enc Literal.all_get Literal.all_set Literal.neg_get Literal.neg_set Literal.atom_get Literal.atom_set Literal.atom_pred_get Literal.atom_pred_set Literal.atom_args_get Literal.atom_args_set Engine.length_enc Engine.ok_enc Engine.all_get Engine.all_set Engine.prog_get Engine.prog_set Engine.st_get Engine.st_set SrcCertm.length_enc SrcCertm.ok_enc SrcCertm.all_get SrcCertm.all_set SrcCertm.b_get SrcCertm.b_set SrcCertm.at__get SrcCertm.at__set GNode.length_enc GNode.ok_enc GNode.all_get GNode.all_set GNode.rule_get GNode.rule_set GNode.pred_get GNode.pred_set GNode.vals_get GNode.vals_set GNode.refs_get GNode.refs_set Term.length_enc Term.ok_enc Term.all_get Term.all_set Term.var_get Term.var_set Term.n_get Term.n_set Env.length_enc Env.ok_enc Env.all_get Env.all_set Env.val_get Env.val_set Env.set_get Env.set_set
attribute [local go_sem] size_put size_ext blk_put free_put blk_alloc free_alloc blk_drew free_drew blk_ext free_ext lookOr_some putOr_some segAt_some cellAt_some storeIn_some put_put put_alloc_new length_arr ok_arr_u8 ok_arr_u32 ok_arr_u64 ok_arr_i64 ok_arr_sl cellsV_agg cellsV_int cellsV_bool cellsV_string cellsV_pointer cellsV_slice cellsV_sl ok_int ok_bool ok_string ok_pointer ok_slice ok_sl toList_arr seg_arr set_arr nth_splice nth_splice0 seg_splice seg_splice0 splice_splice splice_splice0 length_splice_if
attribute [local go_sem ↓] execOp_box
attribute [local go_sem] box_run nth_arr_u8 put_arr_u8 blk_drewN free_drewN put_drewN blk_raw free_raw
namespace OcN
variable {Oc : LOwn}
theorem core_grow2 {O : Own} {W V : World} (hx : W.Extends V) : Sub (core O W) (core (lab O W.heap.size .no) V) := Sub.cores fun b C hb ho => ⟨(hx.blk (blk_lt hb)).trans hb, by rw [lab_lt (blk_lt hb)]; exact ho⟩
def PfPost (Oc : LOwn) (W : World) (p : PP) (Fs : List (List NRow)) (e : Ending) (V : World) : Prop := ∃ bo ta tn tc F' T', e = .returned (.tuple #[.slice (some ⟨bo, 0, none⟩) Fs.length Fs.length, .slice ta tn tc]) ∧ PfTo p (constF p.pool Fs) 0 Fs [] F' T' ∧ F'.length = Fs.length ∧ W.Extends V ∧ FactsAt (core (lab Oc.f W.heap.size .no) V) (some ⟨bo, 0, none⟩) Fs.length F' ∧ StepsAt (core (lab Oc.f W.heap.size .no) V) ta tn T' ∧ T'.length ≤ 1000000000000 ∧ (∀ L ∈ F', L.length ≤ 1000000000000) ∧ Rows4 F'
structure PIv (Oc : LOwn) (W1 : World) (bo : Nat) (p : PP) (dom : List (List UInt8)) (Fs : List (List NRow)) (s : Nat) (O : Own) (V : World) (F : List (List NRow)) (ta : Option Addr) (tn tc : Nat) (KT : List MStep) (T : List NStep) : Prop where
  st : PfS Oc W1 bo O V F ta tn tc KT T
  fl : F.length = Fs.length
  ll : ∀ L ∈ F, L.length ≤ 1000
  r4 : Rows4 F
  tt : T.length + totN Fs = totN F
  go : ∀ F' T', PfTo p dom s F T F' T' → PfTo p dom 0 Fs [] F' T'
theorem PIv.tot {W1 : World} {bo : Nat} {p : PP} {dom : List (List UInt8)} {Fs : List (List NRow)} {s : Nat} {O : Own} {V : World} {F : List (List NRow)} {ta : Option Addr} {tn tc : Nat} {KT : List MStep} {T : List NStep} (h : PIv Oc W1 bo p dom Fs s O V F ta tn tc KT T) (hN : Fs.length ≤ 64) : totN F ≤ 64000 ∧ T.length ≤ 64000 := by
  have h1 := tot_le F 1000 h.ll
  have h2 : F.length * 1000 ≤ 64 * 1000 := Nat.mul_le_mul_right _ (by rw [h.fl]; exact hN)
  have h3 := h.tt
  omega
theorem PfS.stepsC {W : World} {bo : Nat} {O : Own} {V : World} {F : List (List NRow)} {ta : Option Addr} {tn tc : Nat} {KT : List MStep} {T : List NStep} (h : PfS Oc W bo O V F ta tn tc KT T) {U : Own} (hU : ∀ k, W.heap.size ≤ k → U k = .no) (hU2 : ∀ k, k < W.heap.size → Oc.f k = .no → U k = .no) : StepsAt (core U V) ta tn T := by
  have h1 := (h.row.rw MStep.len).1
  have hs9 : Sub (core O V) (core U V) := Sub.cores fun b Cb hb ho => by
    refine ⟨hb, ?_⟩
    by_cases hk : b < W.heap.size
    · exact hU2 b hk ((h.rel.old b hk).symm.trans ho)
    · exact hU b (by omega)
  exact ⟨KT, h1.tocore (fun b C e _ => hU b (row_at h.row.1 b (by rw [e]; rfl)).1), by rw [h.len]; exact h1.1, fun i k s e1 e2 => (h.con i k s e1 e2).sub hs9⟩
def zP1 (Oc : LOwn) (W1 : World) (bo N : Nat) (p : PP) (dom : List (List UInt8)) (Fs : List (List NRow)) (v0 v6 : Value) (f : Nat → Value) (V : World) : Prop := f 0 = v0 ∧ f 6 = v6 ∧ f 7 = .slice (some ⟨bo, 0, none⟩) N N ∧ ∃ (s : Nat) (ta : Option Addr) (tn tc : Nat), s ≤ p.strata.toNat ∧ f 9 = .int .i64 (s : Nat) ∧ f 8 = .slice ta tn tc ∧ Hid (∃ O F KT T, PIv Oc W1 bo p dom Fs s O V F ta tn tc KT T)
def zP2 (Oc : LOwn) (W1 : World) (bo N : Nat) (p : PP) (dom : List (List UInt8)) (Fs : List (List NRow)) (v0 v6 : Value) (s : Nat) (μ : Nat) (f : Nat → Value) (V : World) : Prop := f 0 = v0 ∧ f 6 = v6 ∧ f 7 = .slice (some ⟨bo, 0, none⟩) N N ∧ f 9 = .int .i64 (s : Nat) ∧ ∃ (ta : Option Addr) (tn tc : Nat), f 8 = .slice ta tn tc ∧ Hid (∃ O F KT T, PIv Oc W1 bo p dom Fs s O V F ta tn tc KT T ∧ μ = 64001 - totN F)
def zP3 (V0 : World) (bo N : Nat) (p : PP) (dom : List (List UInt8)) (F : List (List NRow)) (v0 v6 v8 : Value) (s : Nat) (f : Nat → Value) (V : World) : Prop := f 0 = v0 ∧ f 6 = v6 ∧ f 7 = .slice (some ⟨bo, 0, none⟩) N N ∧ f 8 = v8 ∧ f 9 = .int .i64 (s : Nat) ∧ ∃ (n : Nat) (fa : Option Addr) (fn fc : Nat), n ≤ p.rules.length ∧ f 11 = .int .i64 (n : Nat) ∧ f 10 = .slice fa fn fc ∧ Hid (∃ O K S, FdS V0 O V fa fn fc K S ∧ StOk dom S ∧ (∀ s ∈ S, s.pred < F.length) ∧ ∀ out, RdTo p dom F s n S out → RdTo p dom F s 0 [] out)
def zP4 (Oc : LOwn) (W1 : World) (bo N : Nat) (F : List (List NRow)) (v0 v6 v9 : Value) (ta : Option Addr) (tn tc : Nat) (KT : List MStep) (T : List NStep) (fa : Option Addr) (fn fc : Nat) (K : List MStep) (S : List NStep) (f : Nat → Value) (V : World) : Prop := f 0 = v0 ∧ f 6 = v6 ∧ f 7 = .slice (some ⟨bo, 0, none⟩) N N ∧ f 8 = .slice ta tn tc ∧ f 9 = v9 ∧ f 10 = .slice fa fn fc ∧ ∃ i : Nat, i ≤ fn ∧ f 12 = .int .i64 (i : Nat) ∧ Hid (∃ O, PfF Oc W1 bo O V (addAll F (S.take i)) ta tn tc KT T fa fn fc K S)
attribute [local go_sem ↓] execOp_slice execOp_convert execOp_build execOp_bslice execOp_make
attribute [local go_sem] bslice75
attribute [local go_sem] Tryz.zl75 Tryz.zs75 Tryz.zl52 Tryz.zs52 Tryz.zl53 Tryz.zs53
set_option maxRecDepth 40000 in
set_option maxHeartbeats 8000000 in
/-- The model's perfect model. -/
theorem perfectN_any (Oc : LOwn) (W : World) (b ob : Nat) (p : PP) (ga : Option Addr) (gn gc : Nat) (Fs : List (List NRow)) (hE : PfE W b ob p ga gn Fs) (hC : FactsAt (core Oc.f W) ga gn Fs) : Calls Tryz.prog 25 #[.pointer (some ⟨b, ob, none⟩), .slice ga gn gc] W (PfPost Oc W p Fs) := by
  obtain ⟨Q, hQ⟩ : ∃ Q, Q = PfPost Oc W p Fs := ⟨_, rfl⟩
  rw [← hQ]
  have HQ := hid_of hQ
  have HE := hid_of hE
  have HC := hid_of hC
  clear hC
  have hgn : Fs.length = gn := hE.fc.choose_spec.2.1
  have HGN := hid_of hgn
  have hgb : gn ≤ 64 := by have := hE.n64; omega
  have hcn := constants_any W b ob p hE.pg ga gn gc Fs hE.fc hE.pl (Nat.le_trans hE.n64 (by decide)) (fun L hL => ⟨Nat.le_trans (hE.ll L hL) (by decide), hE.r4 L hL⟩)
  obtain ⟨dom, edom⟩ : ∃ dom, dom = constF p.pool Fs := ⟨_, rfl⟩
  rw [← edom] at hcn
  have EDOM := hid_of edom
  clear hQ hE hgn edom
  go_enter Tryz.func25, Tryz.ntmps25
  go_wp2_with fail
  refine hcn.mono ?_
  rintro e W1 ⟨da, dc, rfl, hOd⟩
  dsimp only
  obtain ⟨dn, edn⟩ : ∃ dn, dn = dom.length := ⟨_, rfl⟩
  rw [← edn] at hOd ⊢
  have hx1 := hOd.2.1
  have HX1 := hid_of hx1
  have HDR : Hid (Rw encS 1 W1 da dn dom) := hOd.rw el50
  obtain ⟨Oc1, eOc1⟩ : ∃ Oc1, Oc1 = Oc.grow W.heap.size := ⟨_, rfl⟩
  have hUa : ∀ k, W1.heap.size ≤ k → lab Oc.f W.heap.size .no k = .no := fun k hk => lab_ge (Nat.le_trans hx1.size hk)
  have hUb : ∀ k, k < W1.heap.size → Oc1.f k = .no → lab Oc.f W.heap.size .no k = .no := fun k hk e => by rw [eOc1] at e; exact e
  have HU : Hid ((∀ k, W1.heap.size ≤ k → lab Oc.f W.heap.size .no k = .no) ∧ ∀ k, k < W1.heap.size → Oc1.f k = .no → lab Oc.f W.heap.size .no k = .no) := ⟨hUa, hUb⟩
  have hcp := copyOf_any Oc1 W1 ga gn gc Fs (by rw [eOc1]; exact HC.out.sub (core_grow2 hx1)) (by omega) (fun L hL => Nat.le_trans (HE.out.ll L hL) (by decide))
  clear hcn hOd hx1 edn hUa hUb eOc1 HC
  go_wp2_with fail
  refine hcp.mono ?_
  rintro e V2 ⟨bo, O2, rfl, hR2⟩
  dsimp only
  rw [HGN.out]
  have HB1 : Hid (∃ O F KT T, PIv Oc1 W1 bo p dom Fs 0 O V2 F none 0 0 KT T) := ⟨O2, Fs, [], [], ⟨⟨hR2, RowL.nil _ _ _ _ _ _, rfl, fun i k s h => by cases h⟩, rfl, HE.out.ll, HE.out.r4, by simp, fun _ _ h => h⟩⟩
  clear hcp hR2
  have hpg1 : ProgO W1 b ob p := HE.out.pg.sub (Sub.ext HX1.out)
  obtain ⟨Ce, pa, pn, pc, qa, qn, qc, ua, un, uc, hb, hl4, k0, k1, k2, k3, k4, k5, Rs, k6, k7, k8⟩ := hpg1.cells
  have HPG := hid_of hpg1
  have HB := hid_of hb
  have HPR := hid_of k5
  have HRS := hid_of k6
  have HRL : Hid (Rs.length = p.rules.length) := k7
  have HRC := hid_of k8
  have hun : un = p.rules.length := by rw [← k7]; exact k6.1.symm
  have HUN := hid_of hun
  have hub : un ≤ 1000 := by have := HE.out.rl; omega
  have l1 : ob + 1 < Ce.length := by omega
  have l2 : ob + 2 < Ce.length := by omega
  have l3 : ob + 3 < Ce.length := by omega
  have hqn : qn = gn := by rw [← HGN.out, HE.out.nl]; exact k5.1.symm
  have HQN := hid_of hqn
  clear hpg1 hb k0 k4 k5 k6 k7 k8 hun hl4 hqn
  go_upto_region 5 with fail
  refine wp_loop_f 99 (zP1 Oc1 W1 bo gn p dom Fs (.pointer (some ⟨b, ob, none⟩)) (.slice da dn dc)) (fun f _ => p.strata.toNat - (intOf (f 9)).toNat) rfl ⟨rfl, rfl, rfl, 0, none, 0, 0, by omega, rfl, rfl, HB1⟩ ?_
  clear HB1 O2 V2
  intro G1 V3 hrel
  obtain ⟨f0, f6, f7, s, ta, tn, tc, hs, f9, f8, HI⟩ := hrel
  have H9 := hid_of f9
  rw [zframe99p, f0, f6, f7, f8, f9]
  clear f0 f6 f7 f8 f9
  obtain ⟨O3, F, KT, T, hP3⟩ := HI.out
  have HP3 := hid_of hP3
  have hb3 : blk V3 b = some Ce := (hP3.st.rel.ext.blk (blk_lt HB.out)).trans HB.out
  clear HI hP3
  by_cases hst : (s : Int) < p.strata
  rotate_left 1
  · have HP : Hid (Q (.returned (.tuple #[.slice (some ⟨bo, 0, none⟩) gn gn, .slice ta tn tc])) V3) := by
      show Q _ _
      rw [HQ.out]
      have h9 := HP3.out
      have h8 := h9.tot HE.out.n64
      refine ⟨bo, ta, tn, tc, F, T, by rw [HGN.out], ?_, h9.fl, HX1.out.trans h9.st.rel.ext, by rw [← h9.fl]; exact h9.st.rel.factsC HU.out.1 HU.out.2, h9.st.stepsC HU.out.1 HU.out.2, by omega, fun L hL => Nat.le_trans (h9.ll L hL) (by decide), h9.r4⟩
      rw [← EDOM.out]
      exact h9.go _ _ (PfTo.fin s F T hst)
    clear HP3
    go_wp2_with fail
    try go_ret2
    exact HP.out
  have hsb : p.strata ≤ 1000 := HE.out.st
  obtain ⟨μ0, eμ⟩ : ∃ μ0, μ0 = 64001 - totN F := ⟨_, rfl⟩
  have HB2 : Hid (∃ O F KT T, PIv Oc1 W1 bo p dom Fs s O V3 F ta tn tc KT T ∧ μ0 = 64001 - totN F) := ⟨O3, F, KT, T, HP3.out, eμ⟩
  clear HP3 eμ
  go_upto_region 7 with fail
  refine wp_loop_ix 99 (zP2 Oc1 W1 bo gn p dom Fs (.pointer (some ⟨b, ob, none⟩)) (.slice da dn dc) s) μ0 rfl ⟨rfl, rfl, rfl, rfl, ta, tn, tc, rfl, HB2⟩ ?_
  clear HB2 hb3
  intro μ G2 V0 hrel ν HMU
  obtain ⟨f0, f6, f7, f9, ta, tn, tc, f8, HI⟩ := hrel
  rw [zframe99p, f0, f6, f7, f8, f9]
  clear f0 f6 f7 f8 f9
  obtain ⟨O0, F, KT, T, hP, hμ⟩ := HI.out
  have HP0 := hid_of hP
  have HMM := hid_of hμ
  have HCE : Hid (CnE V0 b ob p da dn dom (some ⟨bo, 0, none⟩) gn F) := by
    have hsub : Sub W1 V0 := Sub.ext hP.st.rel.ext
    refine ⟨HPG.out.sub hsub, HDR.out.sub hsub, by rw [EDOM.out]; exact HE.out.dm, fun x hx => by rw [EDOM.out]; exact constF_mem.2 (.inl hx), ?_, by rw [hP.fl]; exact HE.out.n64, fun L hL => ⟨Nat.le_trans (hP.ll L hL) (by decide), fun r hr => Nat.le_trans (hP.r4 L hL r hr) (by decide)⟩⟩
    have h9 := hP.st.rel.facts
    rw [hP.fl, HGN.out] at h9
    exact h9
  have hb0 : blk V0 b = some Ce := (hP.st.rel.ext.blk (blk_lt HB.out)).trans HB.out
  have HB3 : Hid (∃ O K S, FdS V0 O V0 none 0 0 K S ∧ StOk dom S ∧ (∀ s ∈ S, s.pred < F.length) ∧ ∀ out, RdTo p dom F s 0 S out → RdTo p dom F s 0 [] out) := ⟨_, [], [], fdS_nil V0, StOk.nil dom, (fun s h => by cases h), fun _ h => h⟩
  clear HI hP hμ
  go_upto_region 9 with fail
  refine wp_loop_f 99 (zP3 V0 bo gn p dom F (.pointer (some ⟨b, ob, none⟩)) (.slice da dn dc) (.slice ta tn tc) s) (fun f _ => un - (intOf (f 11)).toNat) rfl ⟨rfl, rfl, rfl, rfl, rfl, 0, none, 0, 0, by omega, rfl, rfl, HB3⟩ ?_
  clear HB3
  intro G3 V hrel
  obtain ⟨f0, f6, f7, f8, f9, n, fa, fn, fc, hn, f11, f10, HI⟩ := hrel
  have H11 := hid_of f11
  rw [zframe99p, f0, f6, f7, f8, f9, f10, f11]
  clear f0 f6 f7 f8 f9 f10 f11
  obtain ⟨O4, K, S, hFd, hok, hpr, hgo⟩ := HI.out
  have HFD := hid_of hFd
  have HOK := hid_of hok
  have HPRD := hid_of hpr
  have HGO := hid_of hgo
  have hbV : blk V b = some Ce := (hFd.ext.blk (blk_lt hb0)).trans hb0
  rw [← HUN.out] at hn
  clear HI hFd hok hpr hgo
  by_cases hin : n < un
  · have hin' : (n : Int) < (un : Int) := by omega
    have i0 : (0 : Int) ≤ (n : Int) := by omega
    have i2 : ((n : Int)).toNat = n := by omega
    obtain ⟨r, hr⟩ : ∃ r, p.rules[n]? = some r := ⟨_, List.getElem?_eq_getElem (by rw [← HUN.out]; exact hin)⟩
    obtain ⟨x, hx⟩ : ∃ x, Rs[n]? = some x := ⟨_, List.getElem?_eq_getElem (by rw [HRL.out, ← HUN.out]; exact hin)⟩
    have hfit := HE.out.ru r (List.mem_of_getElem? hr)
    obtain ⟨bu, CU, eua, u1, u2, u3⟩ := HRS.out.2 n x hx
    subst eua
    have hrc := HRC.out n x r hx hr
    have hx0 : nth CU (n * 3) = some (.int .i64 (r.head.pred : Int)) := by
      have h9 := nth_in (j := 0) u3 (show nth (GRule.enc x) 0 = some (.int .i64 x.head.pred) from GRule.head_pred_get x) (by omega)
      rw [hrc.1.1] at h9
      exact h9
    have hnm : (n + 1) * 3 ≤ un * 3 := Nat.mul_le_mul_right _ hin
    have hcu : n * 3 < CU.length := by omega
    have hsubV : W1.Extends V := HP0.out.st.rel.ext.trans HFD.out.ext
    have hbu : blk V bu = some CU := (hsubV.blk (blk_lt u1)).trans u1
    have hhp : r.head.pred < p.preds.length := by rw [← HE.out.nl]; exact hfit.hp
    obtain ⟨bq, CQ, eqa, v1, v2, v3⟩ := HPR.out.2 r.head.pred _ (pI_at hhp)
    subst eqa
    have hx2 : nth CQ (r.head.pred * 3 + 2) = some (.int .i64 (pI p r.head.pred).stratum) := nth_in (j := 2) v3 (show nth (PredInfo.enc (pI p r.head.pred)) 2 = some (.int .i64 (pI p r.head.pred).stratum) from rfl) (by omega)
    have hhq : r.head.pred < qn := by rw [← HPR.out.1]; exact hhp
    have hnq : (r.head.pred + 1) * 3 ≤ qn * 3 := Nat.mul_le_mul_right _ hhq
    have hcq : r.head.pred * 3 + 2 < CQ.length := by omega
    have hbq : blk V bq = some CQ := (hsubV.blk (blk_lt v1)).trans v1
    have HC0 : Hid (RuFit p.pool r F.length) := by show RuFit _ _ _; rw [HP0.out.fl]; exact hfit
    have HDW : Hid (∀ q, FdS V0 O4 (V.drewN q) fa fn fc K S) := fun q => by
      have hF9 : Fr (fun _ => False) O4 V O4 (V.drewN q) := (Fr.refl _ _ _).drewN q
      exact ⟨extends_drewN HFD.out.ext q, HFD.out.lo, HFD.out.row.fr hF9 (fun e => e), HFD.out.len, fun i k s e1 e2 => (HFD.out.con i k s e1 e2).sub (Sub.cores fun bb C hb ho => ⟨hb, ho⟩)⟩
    have HCN : Hid (∀ q, Calls Tryz.prog 78 #[.pointer (some ⟨b, ob, none⟩), .int .i64 (n : Int), .slice da dn dc, .slice (some ⟨bo, 0, none⟩) gn gn, .slice fa fn fc] (V.drewN q) (CoPost V0 p.pool dom F r n S)) := fun q => consequences_any V0 b ob p da dn dc dom _ gn gn F HCE.out n r hr (by omega) HC0.out O4 (V.drewN q) fa fn fc K S (HDW.out q) HOK.out
    have HRR := hid_of hr
    obtain ⟨pr, epr⟩ : ∃ pr, pr = r.head.pred := ⟨_, rfl⟩
    obtain ⟨sm, esm⟩ : ∃ sm, sm = (pI p r.head.pred).stratum := ⟨_, rfl⟩
    rw [← esm] at hx2
    rw [← epr] at hx0 hx2 hhq hcq
    have ESM := hid_of esm
    have c1 : (0 : Int) ≤ (pr : Int) := by omega
    have c2 : ((pr : Int)).toNat = pr := by omega
    have c3 : (pr : Int) < (qn : Int) := by omega
    clear hr hx u1 u3 v1 v3 hrc hhp hnm hnq hfit epr esm hsubV hhq u2 v2
    by_cases hss : sm = (s : Int)
    rotate_left 1
    · have nb : (sm == (s : Int)) = false := by simp [hss]
      have HJ : Hid (∀ q, ∃ O K S, FdS V0 O (V.drewN q) fa fn fc K S ∧ StOk dom S ∧ (∀ s ∈ S, s.pred < F.length) ∧ ∀ out, RdTo p dom F s (n + 1) S out → RdTo p dom F s 0 [] out) := fun q => ⟨O4, K, S, HDW.out q, HOK.out, HPRD.out, fun out h9 => HGO.out out (RdTo.skip n S out r HRR.out (by rw [← ESM.out]; exact hss) h9)⟩
      clear HCN HDW HFD HOK HPRD HGO hss
      go_upto_region 11 with fail
      go_quiet (fail)
      go_wp2_with fail
      refine ⟨rfl, rfl, ⟨rfl, rfl, rfl, rfl, rfl, n + 1, fa, fn, fc, by have := HUN.out; omega, ?_, rfl, HJ.out _⟩, ?_⟩
      · show Value.int .i64 _ = _
        go_num
      · show un - (intOf (Value.int .i64 _)).toNat < un - (intOf (G3 11)).toNat
        rw [H11.out]
        simp [intOf]; omega
    have nb : (sm == (s : Int)) = true := by simp [hss]
    have HSS : Hid ((pI p r.head.pred).stratum = (s : Int)) := by show _ = _; rw [← ESM.out]; exact hss
    clear HDW HFD HOK hss ESM
    go_upto_region 11 with fail
    go_quiet (fail)
    go_wp2_with fail
    refine (HCN.out _).mono ?_
    rintro e V5 ⟨a5, m5, c5, O5, K5, S5, rfl, hcr, hFd5, hok5⟩
    dsimp only
    have HJ : Hid (∃ O K S, FdS V0 O V5 a5 m5 c5 K S ∧ StOk dom S ∧ (∀ s ∈ S, s.pred < F.length) ∧ ∀ out, RdTo p dom F s (n + 1) S out → RdTo p dom F s 0 [] out) := ⟨O5, K5, S5, hFd5, hok5, hcr.pred HC0.out.hp HPRD.out, fun out h9 => HGO.out out (RdTo.take n S S5 out r HRR.out HSS.out hcr h9)⟩
    clear HCN hcr hFd5 hok5 HPRD HGO
    go_wp2_with fail
    refine ⟨rfl, rfl, ⟨rfl, rfl, rfl, rfl, rfl, n + 1, a5, m5, c5, by have := HUN.out; omega, ?_, rfl, HJ⟩, ?_⟩
    · show Value.int .i64 _ = _
      go_num
    · show un - (intOf (Value.int .i64 _)).toNat < un - (intOf (G3 11)).toNat
      rw [H11.out]
      simp [intOf]; omega
  have hin' : ¬ (n : Int) < (un : Int) := by omega
  have HRD : Hid (RdTo p dom F s 0 [] S) := HGO.out S (RdTo.fin n S (by rw [← HUN.out]; omega))
  have hKf : K.length = fn := (HFD.out.row.rw MStep.len).1.1
  have hSf : S.length = fn := HFD.out.len.trans hKf
  have HSF := hid_of hSf
  have HKF := hid_of hKf
  clear hKf hSf HGO
  by_cases hf0 : fn = 0
  · have nb : ((fn : Int) == 0) = true := by simp [hf0]
    have HJ : Hid (∃ O F KT T, PIv Oc1 W1 bo p dom Fs (s + 1) O V F ta tn tc KT T) := by
      have hS0 : S = [] := List.eq_nil_of_length_eq_zero (by rw [HSF.out]; exact hf0)
      have h9 := HP0.out
      have h8 := HRD.out
      rw [hS0] at h8
      exact ⟨_, F, KT, T, h9.st.grow HFD.out.ext, h9.fl, h9.ll, h9.r4, h9.tt, fun F' T' h7 => h9.go F' T' (PfTo.next s F F' T T' hst h8 h7)⟩
    clear HFD HOK HPRD HRD hf0 HP0 HCE
    go_wp2_with fail
    refine ⟨rfl, rfl, ⟨rfl, rfl, rfl, s + 1, ta, tn, tc, by omega, ?_, rfl, HJ⟩, ?_⟩
    · show Value.int .i64 _ = _
      go_num
    · show p.strata.toNat - (intOf (Value.int .i64 _)).toNat < p.strata.toNat - (intOf (G1 9)).toNat
      rw [H9.out]
      simp [intOf]; omega
  have nb : ((fn : Int) == 0) = false := by simp [hf0]
  obtain ⟨O6, hPF⟩ := HP0.out.st.merge HFD.out
  have HB4 : Hid (∃ O, PfF Oc1 W1 bo O V (addAll F (S.take 0)) ta tn tc KT T fa fn fc K S) := ⟨O6, hPF⟩
  have hfb : fn ≤ 280000000000 := by rw [← HSF.out]; exact HOK.out.bd HCE.out.dl
  clear hPF
  go_upto_region 15 with fail
  refine wp_loop_f 99 (zP4 Oc1 W1 bo gn F (.pointer (some ⟨b, ob, none⟩)) (.slice da dn dc) (.int .i64 (s : Int)) ta tn tc KT T fa fn fc K S) (fun f _ => fn - (intOf (f 12)).toNat) rfl ⟨rfl, rfl, rfl, rfl, rfl, rfl, 0, by omega, rfl, HB4⟩ ?_
  clear HB4 hbV hb0 hin' hin H11
  intro G4 V6 hrel
  obtain ⟨f0, f6, f7, f8, f9, f10, i, hi, f12, HI⟩ := hrel
  have H12 := hid_of f12
  rw [zframe99p, f0, f6, f7, f8, f9, f10, f12]
  clear f0 f6 f7 f8 f9 f10 f12
  obtain ⟨O7, hPF⟩ := HI.out
  have HPF := hid_of hPF
  clear HI hPF
  by_cases hin : i < fn
  rotate_left 1
  · have hin' : ¬ (i : Int) < (fn : Int) := by omega
    have hSt : S.take i = S := List.take_of_length_le (by rw [HSF.out]; omega)
    have h9 := HPF.out
    rw [hSt] at h9
    have h8 := HP0.out.tot HE.out.n64
    obtain ⟨t2a, t2c, V7, O8, hrun, hS8⟩ := h9.close (by rw [HSF.out]; omega)
    have hlen8 : (addAll F S).length = gn := by rw [addAll_len, HP0.out.fl, HGN.out]
    have hov := overN_any V7 (some ⟨bo, 0, none⟩) gn gn (by omega) (addAll F S) (by have h7 := hS8.rel.facts; rw [hlen8] at h7; exact h7)
    have HS8 := hid_of hS8
    have HSN : Hid (S ≠ []) := fun e => hf0 (by rw [← HSF.out, e]; rfl)
    have hrow4 : Rows4 (addAll F S) := Rows4.all S HP0.out.r4 (fun s hs => (HOK.out.ok s hs).2.1)
    have HR4 := hid_of hrow4
    clear hSt h9 hS8 HPF hrow4
    cases hob : overN (addAll F S) with
    | true =>
      rw [hob] at hov
      have HP : Hid (Q (.returned (.tuple #[.slice (some ⟨bo, 0, none⟩) gn gn, .slice t2a (tn + fn) t2c])) V7) := by
        show Q _ _
        rw [HQ.out]
        have h7 := HS8.out
        refine ⟨bo, t2a, tn + fn, t2c, addAll F S, T ++ S, by rw [HGN.out], ?_, by rw [addAll_len]; exact HP0.out.fl, HX1.out.trans h7.rel.ext, ?_, h7.stepsC HU.out.1 HU.out.2, by rw [List.length_append, HSF.out]; omega, fun L hL => ?_, HR4.out⟩
        · rw [← EDOM.out]
          exact HP0.out.go _ _ (PfTo.stop s F T S hst HRD.out HSN.out hob)
        · have h6 := h7.rel.factsC HU.out.1 HU.out.2
          rw [addAll_len, HP0.out.fl] at h6
          exact h6
        · have h6 := addAll_bd S F 1000 HP0.out.ll L hL
          rw [HSF.out] at h6
          omega
      clear HS8 HP0 hob
      go_wp2_with (at_builtin; refine wpList_append_run rfl _ _ 53 rfl _ _ _ _ rfl rfl hrun ?_)
      refine hov.mono ?_
      rintro e V8 ⟨rfl, rfl⟩
      dsimp only
      clear hov
      go_wp2_with fail
      try go_ret2
      exact HP.out
    | false =>
      rw [hob] at hov
      have htot : totN (addAll F S) = totN F + S.length := tot_all S F HPRD.out
      have hspos : 0 < S.length := by rw [HSF.out]; omega
      have HJ : Hid (∃ O Fx KT T, PIv Oc1 W1 bo p dom Fs s O V7 Fx t2a (tn + fn) t2c KT T ∧ 64001 - totN (addAll F S) = 64001 - totN Fx) := by
        refine ⟨O8, addAll F S, KT ++ K, T ++ S, ⟨HS8.out, by rw [addAll_len]; exact HP0.out.fl, fun L hL => Nat.le_trans (overN_le hob L hL) (by decide), HR4.out, ?_, fun F' T' h7 => HP0.out.go F' T' (PfTo.again s F F' T T' S hst HRD.out HSN.out hob h7)⟩, rfl⟩
        rw [List.length_append, htot]
        have := HP0.out.tt
        omega
      have HLT : Hid (64001 - totN (addAll F S) < μ) := by
        show _ < _
        rw [HMM.out, htot]
        omega
      clear HS8 HP0 hob htot hspos HMM
      go_wp2_with (at_builtin; refine wpList_append_run rfl _ _ 53 rfl _ _ _ _ rfl rfl hrun ?_)
      refine hov.mono ?_
      rintro e V8 ⟨rfl, rfl⟩
      dsimp only
      clear hov
      go_wp2_with fail
      exact ⟨rfl, rfl, ⟨_, ⟨rfl, rfl, rfl, rfl, t2a, tn + fn, t2c, rfl, HJ⟩⟩, HMU.out _ _ _ ⟨rfl, rfl, rfl, rfl, t2a, tn + fn, t2c, rfl, HJ⟩ HLT.out⟩
  have hin' : (i : Int) < (fn : Int) := by omega
  have i0 : (0 : Int) ≤ (i : Int) := by omega
  have i2 : ((i : Int)).toNat = i := by omega
  obtain ⟨sx, hsx⟩ : ∃ sx, S[i]? = some sx := ⟨_, List.getElem?_eq_getElem (by rw [HSF.out]; exact hin)⟩
  obtain ⟨kx, hkx⟩ : ∃ kx, K[i]? = some kx := ⟨_, List.getElem?_eq_getElem (by rw [HKF.out]; exact hin)⟩
  have hPd := HPF.out.drewN 1
  have hpf : sx.pred < (addAll F (S.take i)).length := by rw [addAll_len]; exact HPRD.out sx (List.mem_of_getElem? hsx)
  have hlf : ((addAll F (S.take i)).getD sx.pred []).length ≤ 999999999999 := by
    have h9 := getD_len (addAll_bd (S.take i) F 1000 HP0.out.ll) sx.pred
    have h8 : (S.take i).length ≤ i := by rw [List.length_take]; omega
    omega
  obtain ⟨C, la, lc, a', c', V7, O8, y1, y2, y3, y4, hrun, y5, y6, y7, y8⟩ := hPd.add hkx hsx hpf hlf
  have hst9 := HPF.out.con i kx sx hkx hsx
  obtain ⟨bf, CF, efa, m1, m2, m3⟩ := (HPF.out.row.rw MStep.len).1.2 i kx hkx
  have hOf : O7 bf = .a 7 1 := HPF.out.row.2 bf (by rw [efa]; rfl)
  subst efa
  obtain ⟨kp, ⟨ka, kn, kc⟩, kr, kv⟩ := kx
  have m4 : nth CF (i * 4) = some (.int .i64 (sx.pred : Int)) := by
    have h9 : kp = (sx.pred : Int) := hst9.1
    rw [← h9]
    exact nth_in (j := 0) m3 rfl (by omega)
  have m5 : nth CF (i * 4 + 1) = some (.slice ka kn kc) := nth_in (j := 1) m3 rfl (by omega)
  have hm4 : (i + 1) * 4 ≤ fn * 4 := Nat.mul_le_mul_right _ hin
  have c4 : i * 4 < CF.length := by omega
  have c5 : i * 4 + 1 < CF.length := by omega
  have hbf6 : blk V6 bf = some CF := m1
  have hbf7 : blk V7 bf = some CF := y7 bf CF m1 hOf
  have nt : ¬ bf = bo := fun e => by
    have h9 := HPF.out.st.rel.lab
    rw [← e, hOf] at h9
    have := (Lab.a.inj h9).1
    omega
  have hfin : ∀ X, blk (put V7 bo X) bf = some CF := fun X => by rw [blk_put, if_neg nt]; exact hbf7
  have hal : ∀ X, blk (V6.drew.alloc X) bf = some CF := fun X => ((extends_alloc (ext_Ext (Ext.refl _)) X : V6.drew.Extends _).blk (blk_lt (w := V6.drew) hbf6)).trans hbf6
  have hgb7 : sx.pred < gn := by
    have h9 : (addAll F (S.take i)).length = gn := by rw [addAll_len, HP0.out.fl, HGN.out]
    omega
  obtain ⟨ll, ell⟩ : ∃ ll, ll = ((addAll F (S.take i)).getD sx.pred []).length := ⟨_, rfl⟩
  obtain ⟨pr, epr⟩ : ∃ pr, pr = sx.pred := ⟨_, rfl⟩
  have HJ : Hid (∃ O, PfF Oc1 W1 bo O (put V7 bo (splice C pr [.slice a' (ll + 1) c'])) (addAll F (S.take (i + 1))) ta tn tc KT T (some ⟨bf, 0, none⟩) fn fc K S) := by
    refine ⟨O8, ?_⟩
    have e9 : S.take (i + 1) = S.take i ++ [sx] := by rw [List.take_add_one, hsx]; rfl
    rw [e9, addAll_snoc, epr, ell]
    exact y8
  dsimp only at hrun
  rw [← epr] at y2 y4 m4 hgb7
  rw [← epr] at ell
  rw [← epr] at hrun
  rw [← ell] at y4 hrun
  have y1' : blk V6 bo = some C := y1
  have y2' : pr + 1 ≤ C.length := y2
  have mbo : ¬ bo = V6.heap.size := Nat.ne_of_lt (blk_lt y1')
  have mbt : ¬ bf = V6.heap.size := Nat.ne_of_lt (blk_lt hbf6)
  have c1 : (0 : Int) ≤ (pr : Int) := by omega
  have c2 : ((pr : Int)).toNat = pr := by omega
  have c3 : (pr : Int) < (gn : Int) := by omega
  clear hsx hkx hPd hpf hlf hst9 m1 m3 hOf y1 y3 y7 y8 nt hm4 ell epr HPF m2
  go_upto_region 17 with fail
  repeat go_step
  refine wp_region_held_drew (S := fun W' => blk W' bf = some CF) (by kernel_rfl) hbf6 (fun hHeld => ?_)
  refine wpAnyH_take (i := 0) (oi := ⟨_, _, _, _, _, _⟩) (v := ?_) rfl (by kernel_rfl) (by kernel_rfl) (by kernel_rfl) (fun _ _ _ h => h) (Or.inl ⟨by rfl, ?_⟩) (by assumption) ?_
  rotate_left 1
  · intro W' hSw
    go_simp
    try with_reducible rfl
  try simp only [Act.put, List.setIfInBounds_toArray, List.set_cons_zero, List.set_cons_succ]
  refine wpAnyH_take (i := 1) (oi := ⟨_, _, _, _, _, _⟩) (v := ?_) rfl (by kernel_rfl) (by kernel_rfl) (by kernel_rfl) (fun _ _ _ h => h) (Or.inl ⟨by rfl, ?_⟩) (by assumption) ?_
  rotate_left 1
  · intro W' hSw
    go_simp
    try with_reducible rfl
  try simp only [Act.put, List.setIfInBounds_toArray, List.set_cons_zero, List.set_cons_succ]
  refine wpAnyH_take (i := 2) (oi := ⟨_, _, _, _, _, _⟩) (v := ?_) rfl (by kernel_rfl) (by kernel_rfl) (by kernel_rfl) (fun _ _ _ h => h) (Or.inl ⟨by rfl, ?_⟩) (by assumption) ?_
  rotate_left 1
  · intro W' hSw
    go_simp
    try with_reducible rfl
  try simp only [Act.put, List.setIfInBounds_toArray, List.set_cons_zero, List.set_cons_succ]
  refine wpAnyH_take (i := 3) (oi := ⟨_, _, _, _, _, _⟩) (v := ?_) rfl (by kernel_rfl) (by kernel_rfl) (by kernel_rfl) (fun _ _ _ h => h) (Or.inl ⟨by rfl, ?_⟩) (by assumption) ?_
  rotate_left 1
  · intro W' hSw
    go_simp
    try with_reducible rfl
  try simp only [Act.put, List.setIfInBounds_toArray, List.set_cons_zero, List.set_cons_succ]
  refine wpAnyH_take (i := 4) (oi := ⟨_, _, _, _, _, _⟩) (v := ?_) rfl (by kernel_rfl) (by kernel_rfl) (by kernel_rfl) (fun _ _ _ h => h) (Or.inl ⟨by rfl, ?_⟩) (by assumption) ?_
  rotate_left 1
  · intro W' hSw
    go_simp
    try with_reducible rfl
  try simp only [Act.put, List.setIfInBounds_toArray, List.set_cons_zero, List.set_cons_succ]
  refine wpAnyH_take (i := 5) (oi := ⟨_, _, _, _, _, _⟩) (v := ?_) rfl (by kernel_rfl) (by kernel_rfl) (by kernel_rfl) (fun _ _ _ h => h) (Or.inl ⟨by rfl, ?_⟩) (by assumption) ?_
  rotate_left 1
  · intro W' hSw
    go_simp
    try with_reducible rfl
  try simp only [Act.put, List.setIfInBounds_toArray, List.set_cons_zero, List.set_cons_succ]
  refine wpAnyH_take (i := 6) (oi := ⟨_, _, _, _, _, _⟩) (v := ?_) rfl (by kernel_rfl) (by kernel_rfl) (by kernel_rfl) (fun _ _ _ h => h) (Or.inl ⟨by rfl, ?_⟩) (by assumption) ?_
  rotate_left 1
  · intro W' hSw
    go_simp
    try with_reducible rfl
  try simp only [Act.put, List.setIfInBounds_toArray, List.set_cons_zero, List.set_cons_succ]
  refine wpAnyH_take (i := 7) (oi := ⟨_, _, _, _, _, _⟩) (v := ?_) rfl (by kernel_rfl) (by kernel_rfl) (by kernel_rfl) (fun _ _ _ h => h) (Or.inl ⟨by rfl, ?_⟩) (by assumption) ?_
  rotate_left 1
  · intro W' hSw
    go_simp
    try with_reducible rfl
  try simp only [Act.put, List.setIfInBounds_toArray, List.set_cons_zero, List.set_cons_succ]
  refine wpAnyH_take (i := 8) (oi := ⟨_, _, _, _, _, _⟩) (v := ?_) rfl (by kernel_rfl) (by kernel_rfl) (by kernel_rfl) (fun _ _ _ h => h) (Or.inl ⟨by rfl, ?_⟩) (by assumption) ?_
  rotate_left 1
  · intro W' hSw
    go_simp
    try with_reducible rfl
  try simp only [Act.put, List.setIfInBounds_toArray, List.set_cons_zero, List.set_cons_succ]
  refine wpAnyH_take (i := 9) (oi := ⟨_, _, _, _, _, _⟩) (v := ?_) rfl (by kernel_rfl) (by kernel_rfl) (by kernel_rfl) (fun _ _ _ h => h) (Or.inl ⟨by rfl, ?_⟩) (by assumption) ?_
  rotate_left 1
  · intro W' hSw
    go_simp
    try with_reducible rfl
  try simp only [Act.put, List.setIfInBounds_toArray, List.set_cons_zero, List.set_cons_succ]
  refine wpAnyH_take (i := 10) (oi := ⟨_, _, _, _, _, _⟩) (v := ?_) rfl (by kernel_rfl) (by kernel_rfl) (by kernel_rfl) (fun _ _ _ h => h) (Or.inl ⟨by rfl, ?_⟩) (by assumption) ?_
  rotate_left 1
  · intro W' hSw
    go_simp
    try with_reducible rfl
  try simp only [Act.put, List.setIfInBounds_toArray, List.set_cons_zero, List.set_cons_succ]
  refine wpAnyH_take (i := 11) (oi := ⟨_, _, _, _, _, _⟩) (v := ?_) rfl (by kernel_rfl) (by kernel_rfl) (by kernel_rfl) (fun _ _ _ h => h) (Or.inl ⟨by rfl, ?_⟩) (by assumption) ?_
  rotate_left 1
  · intro W' hSw
    go_simp
    try with_reducible rfl
  try simp only [Act.put, List.setIfInBounds_toArray, List.set_cons_zero, List.set_cons_succ]
  refine wpAnyH_take (i := 12) (oi := ⟨_, _, _, _, _, _⟩) (v := ?_) rfl (by kernel_rfl) (by kernel_rfl) (by kernel_rfl) (fun _ _ _ h => h) (Or.inl ⟨by rfl, ?_⟩) (by assumption) ?_
  rotate_left 1
  · intro W' hSw
    go_simp
    try with_reducible rfl
  try simp only [Act.put, List.setIfInBounds_toArray, List.set_cons_zero, List.set_cons_succ]
  refine wpAnyH_take (i := 14) (oi := ⟨_, _, _, _, _, _⟩) (v := ?_) rfl (by kernel_rfl) (by kernel_rfl) (by kernel_rfl) (fun _ _ _ h => h) (Or.inl ⟨by rfl, ?_⟩) (by assumption) ?_
  rotate_left 1
  · intro W' hSw
    go_simp
    try with_reducible rfl
  try simp only [Act.put, List.setIfInBounds_toArray, List.set_cons_zero, List.set_cons_succ]
  refine wpAnyH_take (i := 15) (oi := ⟨_, _, _, _, _, _⟩) (v := ?_) rfl (by kernel_rfl) (by kernel_rfl) (by kernel_rfl) (fun _ _ _ h => h) (Or.inl ⟨by rfl, ?_⟩) (by assumption) ?_
  rotate_left 1
  · intro W' hSw
    go_simp
    try with_reducible rfl
  try simp only [Act.put, List.setIfInBounds_toArray, List.set_cons_zero, List.set_cons_succ]
  refine wpAnyH_take (i := 16) (oi := ⟨_, _, _, _, _, _⟩) (v := ?_) rfl (by kernel_rfl) (by kernel_rfl) (by kernel_rfl) (fun _ _ _ h => h) (Or.inl ⟨by rfl, ?_⟩) (by assumption) ?_
  rotate_left 1
  · intro W' hSw
    go_simp
    try with_reducible rfl
  try simp only [Act.put, List.setIfInBounds_toArray, List.set_cons_zero, List.set_cons_succ]
  refine wpAnyH_take (i := 17) (oi := ⟨_, _, _, _, _, _⟩) (v := ?_) rfl (by kernel_rfl) (by kernel_rfl) (by kernel_rfl) (fun _ _ _ h => h) (Or.inl ⟨by rfl, ?_⟩) (by assumption) ?_
  rotate_left 1
  · intro W' hSw
    go_simp
    try with_reducible rfl
  try simp only [Act.put, List.setIfInBounds_toArray, List.set_cons_zero, List.set_cons_succ]
  refine wpAnyH_take (i := 18) (oi := ⟨_, _, _, _, _, _⟩) (v := ?_) rfl (by kernel_rfl) (by kernel_rfl) (by kernel_rfl) (fun _ _ _ h => h) (Or.inl ⟨by rfl, ?_⟩) (by assumption) ?_
  rotate_left 1
  · intro W' hSw
    go_simp
    try with_reducible rfl
  try simp only [Act.put, List.setIfInBounds_toArray, List.set_cons_zero, List.set_cons_succ]
  refine wpAnyH_ready (rs := [13, 19]) (by kernel_rfl) (by simp) ?_
  refine AllReadyH.cons (o := ⟨_, _, _, _, _, _⟩) rfl (fun K' hK => ?_) (AllReadyH.cons (o := ⟨_, _, _, _, _, _⟩) rfl (fun K' hK => ?_) AllReadyH.nil)
  · go_simp
    refine hK.out _ _ hbf6 (fun hHeld => ?_)
    clear hK K'
    try simp only [Act.put, List.setIfInBounds_toArray, List.set_cons_zero, List.set_cons_succ]
    refine wpAnyH_ready (rs := [19]) (by kernel_rfl) (by simp) ?_
    refine AllReadyH.cons (o := ⟨_, _, _, _, _, _⟩) rfl (fun K' hK => ?_) AllReadyH.nil
    go_simp
    refine hK.out _ _ (hal _) (fun hHeld => ?_)
    clear hK K'
    try simp only [Act.put, List.setIfInBounds_toArray, List.set_cons_zero, List.set_cons_succ]
    refine wpAnyH_ready (rs := [20]) (by kernel_rfl) (by simp) ?_
    refine AllReadyH.cons (o := ⟨_, _, _, _, _, _⟩) rfl (fun K' hK => ?_) AllReadyH.nil
    refine wp_append_run _ _ 75 rfl _ _ _ _ rfl rfl hrun ?_
    refine hK.out _ _ hbf7 (fun hHeld => ?_)
    clear hK K'
    try simp only [Act.put, List.setIfInBounds_toArray, List.set_cons_zero, List.set_cons_succ]
    refine wpAnyH_take (i := 21) (oi := ⟨_, _, _, _, _, _⟩) (v := ?_) rfl (by kernel_rfl) (by kernel_rfl) (by kernel_rfl) (fun _ _ _ h => h) (Or.inl ⟨by rfl, ?_⟩) (by assumption) ?_
    rotate_left 1
    · intro W' hSw
      go_simp
      try with_reducible rfl
    try simp only [Act.put, List.setIfInBounds_toArray, List.set_cons_zero, List.set_cons_succ]
    refine wpAnyH_ready (rs := [22]) (by kernel_rfl) (by simp) ?_
    refine AllReadyH.cons (o := ⟨_, _, _, _, _, _⟩) rfl (fun K' hK => ?_) AllReadyH.nil
    go_simp
    refine hK.out _ _ (hfin _) (fun hHeld => ?_)
    clear hK K'
    try simp only [Act.put, List.setIfInBounds_toArray, List.set_cons_zero, List.set_cons_succ]
    refine wpAnyH_done (by kernel_rfl) ?_ _
    clear hHeld hrun
    go_wp2_with fail
    refine ⟨rfl, rfl, ⟨rfl, rfl, rfl, rfl, rfl, rfl, i + 1, by omega, ?_, HJ⟩, ?_⟩
    · show Value.int .i64 _ = _
      go_num
    · show fn - (intOf (Value.int .i64 _)).toNat < fn - (intOf (G4 12)).toNat
      rw [H12.out]
      simp [intOf]; omega
  · go_simp
    refine hK.out _ _ (hal _) (fun hHeld => ?_)
    clear hK K'
    try simp only [Act.put, List.setIfInBounds_toArray, List.set_cons_zero, List.set_cons_succ]
    refine wpAnyH_ready (rs := [13]) (by kernel_rfl) (by simp) ?_
    refine AllReadyH.cons (o := ⟨_, _, _, _, _, _⟩) rfl (fun K' hK => ?_) AllReadyH.nil
    go_simp
    refine hK.out _ _ (hal _) (fun hHeld => ?_)
    clear hK K'
    try simp only [Act.put, List.setIfInBounds_toArray, List.set_cons_zero, List.set_cons_succ]
    refine wpAnyH_ready (rs := [20]) (by kernel_rfl) (by simp) ?_
    refine AllReadyH.cons (o := ⟨_, _, _, _, _, _⟩) rfl (fun K' hK => ?_) AllReadyH.nil
    refine wp_append_run _ _ 75 rfl _ _ _ _ rfl rfl hrun ?_
    refine hK.out _ _ hbf7 (fun hHeld => ?_)
    clear hK K'
    try simp only [Act.put, List.setIfInBounds_toArray, List.set_cons_zero, List.set_cons_succ]
    refine wpAnyH_take (i := 21) (oi := ⟨_, _, _, _, _, _⟩) (v := ?_) rfl (by kernel_rfl) (by kernel_rfl) (by kernel_rfl) (fun _ _ _ h => h) (Or.inl ⟨by rfl, ?_⟩) (by assumption) ?_
    rotate_left 1
    · intro W' hSw
      go_simp
      try with_reducible rfl
    try simp only [Act.put, List.setIfInBounds_toArray, List.set_cons_zero, List.set_cons_succ]
    refine wpAnyH_ready (rs := [22]) (by kernel_rfl) (by simp) ?_
    refine AllReadyH.cons (o := ⟨_, _, _, _, _, _⟩) rfl (fun K' hK => ?_) AllReadyH.nil
    go_simp
    refine hK.out _ _ (hfin _) (fun hHeld => ?_)
    clear hK K'
    try simp only [Act.put, List.setIfInBounds_toArray, List.set_cons_zero, List.set_cons_succ]
    refine wpAnyH_done (by kernel_rfl) ?_ _
    clear hHeld hrun
    go_wp2_with fail
    refine ⟨rfl, rfl, ⟨rfl, rfl, rfl, rfl, rfl, rfl, i + 1, by omega, ?_, HJ⟩, ?_⟩
    · show Value.int .i64 _ = _
      go_num
    · show fn - (intOf (Value.int .i64 _)).toNat < fn - (intOf (G4 12)).toNat
      rw [H12.out]
      simp [intOf]; omega
end OcN
end Go.Proofs.Qxb6500787aGreat
