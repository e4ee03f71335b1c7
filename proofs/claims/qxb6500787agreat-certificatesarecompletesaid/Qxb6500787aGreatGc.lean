import Derived.Test.Qxb6500787aGreatMm

import Derived.StillTailTactics
import Derived.Deep.QuietTactic
import Derived.BigQuiet
import Derived.Deep.RegionHeld
import Derived.Deep.CutRange
import Derived.Laws.ResultCell
import Derived.Laws.Rows
import Derived.DeepKeys
import Derived.DataBytes
import Derived.Laws.StructEq
import Derived.Laws.AppendOwn
import Derived.Laws.MakeOwn
import Derived.Lib.AppendStr
set_option linter.unusedSimpArgs false
set_option linter.unusedVariables false
namespace Go.Proofs.Qxb6500787aGreat
open Go.RowKit Go.Blk
attribute [local go_sem ↓] execOp_load execOp_store execOp_alloc
attribute [local go_sem] Tryz.ld26 Tryz.st26 Tryz.ld27 Tryz.st27 Tryz.ld28 Tryz.st28 Tryz.ld3 Tryz.st3 Tryz.ld29 Tryz.st29 Tryz.ld44 Tryz.st44 Tryz.ld4 Tryz.st4 Tryz.ld50 Tryz.st50 Tryz.ld32 Tryz.st32 Tryz.ld49 Tryz.st49 Tryz.ld68 Tryz.st68 Tryz.ld9 Tryz.st9 Tryz.ld40 Tryz.st40 Tryz.ld138 Tryz.st138 Tryz.ld139 Tryz.st139 Tryz.ld146 Tryz.st146 Tryz.ld183 Tryz.st183 Tryz.ld184 Tryz.st184 Tryz.ld192 Tryz.st192 Tryz.ld195 Tryz.st195 Tryz.ld217 Tryz.st217 Tryz.ld159 Tryz.st159 Tryz.ld142 Tryz.st142 Tryz.ld2 Tryz.st2 Tryz.ld5 Tryz.st5 Tryz.ld12 Tryz.st12 Tryz.ld21 Tryz.st21 Tryz.ld22 Tryz.st22 Tryz.ld24 Tryz.st24 Tryz.ld58 Tryz.st58 Tryz.ld97 Tryz.st97 Tryz.ld101 Tryz.st101 Tryz.ld116 Tryz.st116 Tryz.ld121 Tryz.st121 Tryz.ld135 Tryz.st135 Tryz.ld136 Tryz.st136 Tryz.ld143 Tryz.st143 Tryz.ld148 Tryz.st148 Tryz.ld154 Tryz.st154 Tryz.ld173 Tryz.st173 Tryz.ld187 Tryz.st187 Tryz.ld222 Tryz.st222 Tryz.ld241 Tryz.st241 Tryz.ld248 Tryz.st248 Tryz.ld268 Tryz.st268 Tryz.ld272 Tryz.st272 Tryz.ld153 Tryz.st153 Tryz.ld255 Tryz.st255 Tryz.ld256 Tryz.st256 Tryz.ld129 Tryz.st129 Tryz.ld152 Tryz.st152 Tryz.ld31 Tryz.st31 Tryz.ld46 Tryz.st46 Tryz.ld52 Tryz.st52 Tryz.ld54 Tryz.st54 Tryz.ld60 Tryz.st60 Tryz.ld70 Tryz.st70 Tryz.ld74 Tryz.st74 Tryz.ld93 Tryz.st93 Tryz.ld141 Tryz.st141 Tryz.ld151 Tryz.st151 Tryz.ld170 Tryz.st170 Tryz.ld186 Tryz.st186 Tryz.ld189 Tryz.st189 Tryz.ld194 Tryz.st194 Tryz.ld197 Tryz.st197 Tryz.ld219 Tryz.st219 Tryz.ld224 Tryz.st224 Tryz.ld230 Tryz.st230 Tryz.ld235 Tryz.st235 Tryz.ld243 Tryz.st243 Tryz.ld247 Tryz.st247 Tryz.ld252 Tryz.st252 Tryz.ld258 Tryz.st258 Tryz.al153 Tryz.al255 Tryz.al256 Tryz.al129 Tryz.al152 Tryz.al31 Tryz.al46 Tryz.al52 Tryz.al54 Tryz.al60 Tryz.al70 Tryz.al74 Tryz.al93 Tryz.al141 Tryz.al151 Tryz.al170 Tryz.al186 Tryz.al189 Tryz.al194 Tryz.al197 Tryz.al219 Tryz.al224 Tryz.al230 Tryz.al235 Tryz.al243 Tryz.al247 Tryz.al252 Tryz.al258
attribute [local go_sem] Request.length_enc Request.ok_enc Request.all_get Request.all_set Request.kind_get Request.kind_set Request.blob_get Request.blob_set Request.items_get Request.items_set Request.pred_get Request.pred_set Request.slots_get Request.slots_set Trace.length_enc Trace.ok_enc Trace.all_get Trace.all_set Trace.op_get Trace.op_set Trace.calls_get Trace.calls_set Item.length_enc Item.ok_enc Item.all_get Item.all_set Item.del_get Item.del_set Item.pred_get Item.pred_set Item.args_get Item.args_set Reply.length_enc Reply.ok_enc Reply.all_get Reply.all_set Reply.code_get Reply.code_set Reply.kind_get Reply.kind_set Reply.index_get Reply.index_set Reply.yes_get Reply.yes_set Reply.preds_get Reply.preds_set Reply.rules_get Reply.rules_set Reply.arity_get Reply.arity_set Reply.rows_get Reply.rows_set Reply.fact_get Reply.fact_set Reply.fact_del_get Reply.fact_del_set Reply.fact_pred_get Reply.fact_pred_set Reply.fact_args_get Reply.fact_args_set GEntry.length_enc GEntry.ok_enc GEntry.all_get GEntry.all_set GEntry.seq_get GEntry.seq_set GEntry.kind_get GEntry.kind_set GEntry.code_get GEntry.code_set GOp.length_enc GOp.ok_enc GOp.all_get GOp.all_set GOp.kind_get GOp.kind_set GOp.raw_get GOp.raw_set Reader.length_enc Reader.ok_enc Reader.all_get Reader.all_set Reader.buf_get Reader.buf_set Reader.at__get Reader.at__set Slot.length_enc Slot.ok_enc Slot.all_get Slot.all_set Slot.bound_get Slot.bound_set Slot.name_get Slot.name_set Session.length_enc Session.ok_enc Session.all_get Session.all_set Session.svc_get Session.svc_set Session.buf_get Session.buf_set Session.closed_get Session.closed_set GProgram.length_enc GProgram.ok_enc GProgram.all_get GProgram.all_set GProgram.pool_get GProgram.pool_set GProgram.preds_get GProgram.preds_set GProgram.rules_get GProgram.rules_set GProgram.strata_get GProgram.strata_set PredInfo.length_enc PredInfo.ok_enc PredInfo.all_get PredInfo.all_set PredInfo.arity_get PredInfo.arity_set PredInfo.base_get PredInfo.base_set PredInfo.stratum_get PredInfo.stratum_set Change.length_enc Change.ok_enc Change.all_get Change.all_set Change.del_get Change.del_set Change.pred_get Change.pred_set Change.t_get Change.t_set Store.length_enc Store.ok_enc Store.all_get Store.all_set Store.names_get Store.names_set Store.arity_get Store.arity_set Store.rows_get Store.rows_set Src.length_enc Src.ok_enc Src.all_get Src.all_set Src.b_get Src.b_set Src.at__get Src.at__set Atom.length_enc Atom.ok_enc Atom.all_get Atom.all_set Atom.pred_get Atom.pred_set Atom.args_get Atom.args_set GRule.length_enc GRule.ok_enc GRule.all_get GRule.all_set GRule.head_get GRule.head_set GRule.body_get GRule.body_set GRule.head_pred_get GRule.head_pred_set GRule.head_args_get GRule.head_args_set Cert.length_enc Cert.ok_enc Cert.all_get Cert.all_set Cert.names_get Cert.names_set Cert.nodes_get Cert.nodes_set Fact.length_enc Fact.ok_enc Fact.all_get Fact.all_set Fact.pred_get Fact.pred_set Fact.t_get Fact.t_set Literal.length_enc Literal.ok_enc Literal.all_get Literal.all_set Literal.neg_get Literal.neg_set Literal.atom_get Literal.atom_set Literal.atom_pred_get Literal.atom_pred_set Literal.atom_args_get Literal.atom_args_set Engine.length_enc Engine.ok_enc Engine.all_get Engine.all_set Engine.prog_get Engine.prog_set Engine.st_get Engine.st_set SrcCertm.length_enc SrcCertm.ok_enc SrcCertm.all_get SrcCertm.all_set SrcCertm.b_get SrcCertm.b_set SrcCertm.at__get SrcCertm.at__set GNode.length_enc GNode.ok_enc GNode.all_get GNode.all_set GNode.rule_get GNode.rule_set GNode.pred_get GNode.pred_set GNode.vals_get GNode.vals_set GNode.refs_get GNode.refs_set Term.length_enc Term.ok_enc Term.all_get Term.all_set Term.var_get Term.var_set Term.n_get Term.n_set Env.length_enc Env.ok_enc Env.all_get Env.all_set Env.val_get Env.val_set Env.set_get Env.set_set
attribute [local go_sem] size_put size_ext blk_put free_put blk_alloc free_alloc blk_drew free_drew blk_ext free_ext lookOr_some putOr_some segAt_some cellAt_some storeIn_some put_put put_alloc_new length_arr ok_arr_u8 ok_arr_u32 ok_arr_u64 ok_arr_i64 ok_arr_sl cellsV_agg cellsV_int cellsV_bool cellsV_string cellsV_pointer cellsV_slice cellsV_sl ok_int ok_bool ok_string ok_pointer ok_slice ok_sl toList_arr seg_arr set_arr nth_splice nth_splice0 seg_splice seg_splice0 splice_splice splice_splice0 length_splice_if
attribute [local go_sem ↓] execOp_box
attribute [local go_sem] box_run nth_arr_u8 put_arr_u8 blk_drewN free_drewN put_drewN blk_raw free_raw
/-- The first place of a row among steps, or -1. -/
def plcF (S : List NStep) (q : Nat) (r : NRow) : Int := match S.findIdx? (fun s => decide (s.pred = q) && decide (s.row = r)) with
  | some i => (i : Int)
  | none => -1
theorem plc_no {S : List NStep} {q : Nat} {r : NRow} (h : ∀ (j : Nat) (s : NStep), S[j]? = some s → ¬ (s.pred = q ∧ s.row = r)) : plcF S q r = -1 := by
  unfold plcF
  rw [List.findIdx?_eq_none_iff.2]
  intro s hs
  obtain ⟨j, hj⟩ := List.mem_iff_getElem?.1 hs
  have := h j s hj
  rw [Bool.eq_false_iff]
  simp only [ne_eq, Bool.and_eq_true, decide_eq_true_eq]
  exact this
theorem plc_yes {S : List NStep} {q : Nat} {r : NRow} {i : Nat} {s : NStep} (hs : S[i]? = some s) (h1 : s.pred = q) (h2 : s.row = r) (h : ∀ (j : Nat) (s : NStep), j < i → S[j]? = some s → ¬ (s.pred = q ∧ s.row = r)) : plcF S q r = (i : Int) := by
  unfold plcF
  obtain ⟨hi, e⟩ := List.getElem?_eq_some_iff.1 hs
  rw [List.findIdx?_eq_some_iff_getElem.2 ⟨hi, by rw [e, decide_eq_true h1, decide_eq_true h2]; rfl, fun j hj => by
    have h9 := h j _ hj (List.getElem?_eq_getElem (Nat.lt_trans hj hi))
    simp only [Bool.and_eq_true, decide_eq_true_eq]
    exact h9⟩]
/-- What place answers. -/
theorem plc_cases (S : List NStep) (q : Nat) (r : NRow) : (plcF S q r = -1 ∧ ∀ (j : Nat) (s : NStep), S[j]? = some s → ¬ (s.pred = q ∧ s.row = r)) ∨ ∃ (i : Nat) (s : NStep), plcF S q r = (i : Int) ∧ S[i]? = some s ∧ s.pred = q ∧ s.row = r ∧ ∀ (j : Nat) (u : NStep), j < i → S[j]? = some u → ¬ (u.pred = q ∧ u.row = r) := by
  cases hf : S.findIdx? (fun s => decide (s.pred = q) && decide (s.row = r)) with
  | none =>
    left
    have h1 := List.findIdx?_eq_none_iff.1 hf
    refine ⟨by unfold plcF; rw [hf], fun j s hs hh => ?_⟩
    have h2 := h1 s (List.mem_of_getElem? hs)
    rw [decide_eq_true hh.1, decide_eq_true hh.2] at h2
    cases h2
  | some i =>
    right
    obtain ⟨hi, h1, h2⟩ := List.findIdx?_eq_some_iff_getElem.1 hf
    simp only [Bool.and_eq_true, decide_eq_true_eq] at h1
    refine ⟨i, S[i], by unfold plcF; rw [hf], List.getElem?_eq_getElem hi, h1.1, h1.2, fun j u hj hu hh => ?_⟩
    obtain ⟨hj', e⟩ := List.getElem?_eq_some_iff.1 hu
    have h3 := h2 j hj
    rw [e, decide_eq_true hh.1, decide_eq_true hh.2] at h3
    exact h3 rfl
def zPl (W : World) (a : Option Addr) (n c : Nat) (v1 v2 : Value) (S : List NStep) (q : Nat) (r : NRow) (f : Nat → Value) (V : World) : Prop := f 0 = .slice a n c ∧ f 1 = v1 ∧ f 2 = v2 ∧ Hid (∃ k, V = W.drewN k) ∧ ∃ i : Nat, i ≤ n ∧ f 7 = .int .i64 (i : Nat) ∧ Hid (∀ (j : Nat) (s : NStep), j < i → S[j]? = some s → ¬ (s.pred = q ∧ s.row = r))
set_option maxRecDepth 100000 in
theorem zframe31l (f : Nat → Value) : frameN 31 f = #[f 0, f 1, f 2, f 3, f 4, f 5, f 6, f 7, f 8, f 9, f 10, f 11, f 12, f 13, f 14, f 15, f 16, f 17, f 18, f 19, f 20, f 21, f 22, f 23, f 24, f 25, f 26, f 27, f 28, f 29, f 30] := by kernel_rfl
set_option maxRecDepth 40000 in
set_option maxHeartbeats 2000000 in
theorem place_any (W : World) (a : Option Addr) (n c : Nat) (hn : n ≤ 1000000000000) (S : List NStep) (hS : StepsAt W a n S) (hr : ∀ s ∈ S, s.row.length ≤ 1000000000000) (q : Nat) (ra : Option Addr) (rn rc : Nat) (r : NRow) (hX : Rw encS 1 W ra rn r) : Calls Tryz.prog 83 #[.slice a n c, .int .i64 (q : Int), .slice ra rn rc] W fun e W' => e = .returned (.int .i64 (plcF S q r)) ∧ ∃ k, W' = W.drewN k := by
  obtain ⟨Q, hQ⟩ : ∃ Q : Ending → World → Prop, Q = fun e W' => e = .returned (.int .i64 (plcF S q r)) ∧ ∃ k, W' = W.drewN k := ⟨_, rfl⟩
  rw [← hQ]
  have HQ := hid_of hQ
  have HS := hid_of hS
  have HX := hid_of hX
  have HR := hid_of hr
  have HLN : Hid (S.length = n) := hS.choose_spec.2.1
  clear hQ hS hX hr
  go_enter Tryz.func83, Tryz.ntmps83
  go_wp2_with fail
  refine wp_loop_f 31 (zPl W a n c (.int .i64 (q : Int)) (.slice ra rn rc) S q r) (fun f _ => n - (intOf (f 7)).toNat) rfl ⟨rfl, rfl, rfl, ⟨0, rfl⟩, 0, by omega, rfl, fun j x hj => by omega⟩ ?_
  intro F V hrel
  obtain ⟨f0, f1, f2, HV, i, hi, f7, HI⟩ := hrel
  have H7 := hid_of f7
  rw [zframe31l, f0, f1, f2, f7]
  clear f0 f1 f2 f7
  by_cases hin : i < n
  rotate_left 1
  · have hin' : ¬ (i : Int) < (n : Int) := by omega
    have HP : Hid (Q (.returned (.int .i64 (-1))) V) := by
      show Q _ _
      rw [HQ.out]
      refine ⟨?_, HV.out⟩
      rw [plc_no (fun j s hs => HI.out j s (by have := (List.getElem?_eq_some_iff.1 hs).1; have := HLN.out; omega) hs)]
    clear HI
    go_wp2_with fail
    try go_ret
    exact HP.out
  have hin' : (i : Int) < (n : Int) := by omega
  have i0 : (0 : Int) ≤ (i : Int) := by omega
  have i2 : ((i : Int)).toNat = i := by omega
  obtain ⟨s, hs⟩ : ∃ x, S[i]? = some x := ⟨_, List.getElem?_eq_getElem (by rw [HLN.out]; exact hin)⟩
  obtain ⟨b, C, k, rfl, g1, g2, g3, g4, -, -, g7⟩ := HS.out.at hs
  obtain ⟨kp, ⟨ka, kn, kc⟩, kr, kv⟩ := k
  obtain ⟨-, -, g8, -⟩ := g7
  dsimp only [Sl.val] at g4 g8
  have hCV : blk V b = some C := by obtain ⟨k, hk⟩ := HV.out; rw [hk]; exact g1
  have hsub : Sub W V := by obtain ⟨k, hk⟩ := HV.out; rw [hk]; exact sub_drewN _ _
  have hsl := HR.out s (List.mem_of_getElem? hs)
  have hsm := same_any V ka ra kn rn kc rc (by rw [← g8.1]; exact hsl) s.row r (g8.sub hsub) (HX.out.sub hsub)
  have c1 : i * 4 < C.length := by omega
  have c2 : i * 4 + 1 < C.length := by omega
  obtain ⟨sp, esp⟩ : ∃ sp, sp = s.pred := ⟨_, rfl⟩
  rw [← esp] at g3
  have ESP := hid_of esp
  have HNX : Hid (¬ (s.pred = q ∧ s.row = r) → ∀ (j : Nat) (s : NStep), j < i + 1 → S[j]? = some s → ¬ (s.pred = q ∧ s.row = r)) := fun h9 j y hj hy => by
    by_cases e : j = i
    · rw [e, hs] at hy
      rw [← Option.some.inj hy]; exact h9
    · exact HI.out j y (by omega) hy
  have HYS : Hid (s.pred = q → s.row = r → plcF S q r = (i : Int)) := fun h1 h2 => plc_yes hs h1 h2 HI.out
  clear g1 g8 hs HI hsl hsub esp
  by_cases hpq : sp = q
  rotate_left 1
  · have nb : ((sp : Int) == (q : Int)) = false := by simp; omega
    have HI' := hid_of (HNX.out (fun h9 => hpq (by rw [ESP.out]; exact h9.1)))
    clear HNX HYS hpq hsm
    go_wp2_with fail
    refine ⟨rfl, rfl, ⟨rfl, rfl, rfl, HV, i + 1, by omega, ?_, HI'⟩, ?_⟩
    · show Value.int .i64 _ = _
      go_num
    · show n - (intOf (Value.int .i64 _)).toNat < n - (intOf (F 7)).toNat
      rw [H7.out]
      simp [intOf]; omega
  have hq0 := ESP.out
  rw [hpq] at hq0 g3
  have HQ0 := hid_of hq0
  clear ESP hpq hq0
  by_cases hxr : s.row = r
  · have HP : ∀ k, Hid (Q (.returned (.int .i64 (i : Int))) (V.drewN k)) := fun k => by
      show Q _ _
      rw [HQ.out]
      obtain ⟨k0, hk⟩ := HV.out
      refine ⟨?_, _, by rw [hk, World.drewN_drewN]⟩
      rw [HYS.out HQ0.out.symm hxr]
    rw [decide_eq_true hxr] at hsm
    clear HNX HYS hxr
    go_wp2_with fail
    refine hsm.mono ?_
    rintro e V1 ⟨rfl, k1, rfl⟩
    dsimp only
    clear hsm
    go_wp2_with fail
    try go_ret
    exact (HP _).out
  · rw [decide_eq_false hxr] at hsm
    have HI' := hid_of (HNX.out (fun h9 => hxr h9.2))
    clear HNX HYS hxr
    go_wp2_with fail
    refine hsm.mono ?_
    rintro e V1 ⟨rfl, k1, rfl⟩
    dsimp only
    clear hsm
    go_wp2_with fail
    refine ⟨rfl, rfl, ⟨rfl, rfl, rfl, ?_, i + 1, by omega, ?_, HI'⟩, ?_⟩
    · obtain ⟨k, hk⟩ := HV.out
      exact ⟨_, by rw [hk, World.drewN_drewN]⟩
    · show Value.int .i64 _ = _
      go_num
    · show n - (intOf (Value.int .i64 _)).toNat < n - (intOf (F 7)).toNat
      rw [H7.out]
      simp [intOf]; omega
end Go.Proofs.Qxb6500787aGreat
