import Derived.Test.Qxb6500787aGreatMc

import Derived.StillTailTactics
import Derived.Deep.QuietTactic
import Derived.BigQuiet
import Derived.Deep.RegionHeld
import Derived.Deep.CutRange
import Derived.Laws.ResultCell
import Derived.Laws.Rows
import Derived.DeepKeys
import Derived.DataBytes
import Derived.Laws.StructEq
import Derived.Laws.AppendOwn
import Derived.Laws.MakeOwn
import Derived.Lib.AppendStr
set_option linter.unusedSimpArgs false
set_option linter.unusedVariables false
namespace Go.Proofs.Qxb6500787aGreat
open Go.RowKit Go.Blk
attribute [local go_sem ↓] execOp_load execOp_store execOp_alloc
attribute [local go_sem] Tryz.ld26 Tryz.st26 Tryz.ld27 Tryz.st27 Tryz.ld28 Tryz.st28 Tryz.ld3 Tryz.st3 Tryz.ld29 Tryz.st29 Tryz.ld44 Tryz.st44 Tryz.ld4 Tryz.st4 Tryz.ld50 Tryz.st50 Tryz.ld32 Tryz.st32 Tryz.ld49 Tryz.st49 Tryz.ld68 Tryz.st68 Tryz.ld9 Tryz.st9 Tryz.ld40 Tryz.st40 Tryz.ld138 Tryz.st138 Tryz.ld139 Tryz.st139 Tryz.ld146 Tryz.st146 Tryz.ld183 Tryz.st183 Tryz.ld184 Tryz.st184 Tryz.ld192 Tryz.st192 Tryz.ld195 Tryz.st195 Tryz.ld217 Tryz.st217 Tryz.ld159 Tryz.st159 Tryz.ld142 Tryz.st142 Tryz.ld2 Tryz.st2 Tryz.ld5 Tryz.st5 Tryz.ld12 Tryz.st12 Tryz.ld21 Tryz.st21 Tryz.ld22 Tryz.st22 Tryz.ld24 Tryz.st24 Tryz.ld58 Tryz.st58 Tryz.ld97 Tryz.st97 Tryz.ld101 Tryz.st101 Tryz.ld116 Tryz.st116 Tryz.ld121 Tryz.st121 Tryz.ld135 Tryz.st135 Tryz.ld136 Tryz.st136 Tryz.ld143 Tryz.st143 Tryz.ld148 Tryz.st148 Tryz.ld154 Tryz.st154 Tryz.ld173 Tryz.st173 Tryz.ld187 Tryz.st187 Tryz.ld222 Tryz.st222 Tryz.ld241 Tryz.st241 Tryz.ld248 Tryz.st248 Tryz.ld268 Tryz.st268 Tryz.ld272 Tryz.st272 Tryz.ld153 Tryz.st153 Tryz.ld255 Tryz.st255 Tryz.ld256 Tryz.st256 Tryz.ld129 Tryz.st129 Tryz.ld152 Tryz.st152 Tryz.ld31 Tryz.st31 Tryz.ld46 Tryz.st46 Tryz.ld52 Tryz.st52 Tryz.ld54 Tryz.st54 Tryz.ld60 Tryz.st60 Tryz.ld70 Tryz.st70 Tryz.ld74 Tryz.st74 Tryz.ld93 Tryz.st93 Tryz.ld141 Tryz.st141 Tryz.ld151 Tryz.st151 Tryz.ld170 Tryz.st170 Tryz.ld186 Tryz.st186 Tryz.ld189 Tryz.st189 Tryz.ld194 Tryz.st194 Tryz.ld197 Tryz.st197 Tryz.ld219 Tryz.st219 Tryz.ld224 Tryz.st224 Tryz.ld230 Tryz.st230 Tryz.ld235 Tryz.st235 Tryz.ld243 Tryz.st243 Tryz.ld247 Tryz.st247 Tryz.ld252 Tryz.st252 Tryz.ld258 Tryz.st258 Tryz.al153 Tryz.al255 Tryz.al256 Tryz.al129 Tryz.al152 Tryz.al31 Tryz.al46 Tryz.al52 Tryz.al54 Tryz.al60 Tryz.al70 Tryz.al74 Tryz.al93 Tryz.al141 Tryz.al151 Tryz.al170 Tryz.al186 Tryz.al189 Tryz.al194 Tryz.al197 Tryz.al219 Tryz.al224 Tryz.al230 Tryz.al235 Tryz.al243 Tryz.al247 Tryz.al252 Tryz.al258
attribute [local go_sem] Request.length_enc Request.ok_enc Request.all_get Request.all_set Request.kind_get Request.kind_set Request.blob_get Request.blob_set Request.items_get Request.items_set Request.pred_get Request.pred_set Request.slots_get Request.slots_set Trace.length_enc Trace.ok_enc Trace.all_get Trace.all_set Trace.op_get Trace.op_set Trace.calls_get Trace.calls_set Item.length_enc Item.ok_enc Item.all_get Item.all_set Item.del_get Item.del_set Item.pred_get Item.pred_set Item.args_get Item.args_set Reply.length_enc Reply.ok_enc Reply.all_get Reply.all_set Reply.code_get Reply.code_set Reply.kind_get Reply.kind_set Reply.index_get Reply.index_set Reply.yes_get Reply.yes_set Reply.preds_get Reply.preds_set Reply.rules_get Reply.rules_set Reply.arity_get Reply.arity_set Reply.rows_get Reply.rows_set Reply.fact_get Reply.fact_set Reply.fact_del_get Reply.fact_del_set Reply.fact_pred_get Reply.fact_pred_set Reply.fact_args_get Reply.fact_args_set GEntry.length_enc GEntry.ok_enc GEntry.all_get GEntry.all_set GEntry.seq_get GEntry.seq_set GEntry.kind_get GEntry.kind_set GEntry.code_get GEntry.code_set GOp.length_enc GOp.ok_enc GOp.all_get GOp.all_set GOp.kind_get GOp.kind_set GOp.raw_get GOp.raw_set Reader.length_enc Reader.ok_enc Reader.all_get Reader.all_set Reader.buf_get Reader.buf_set Reader.at__get Reader.at__set Slot.length_enc Slot.ok_enc Slot.all_get Slot.all_set Slot.bound_get Slot.bound_set Slot.name_get Slot.name_set Session.length_enc Session.ok_enc Session.all_get Session.all_set Session.svc_get Session.svc_set Session.buf_get Session.buf_set Session.closed_get Session.closed_set GProgram.length_enc GProgram.ok_enc GProgram.all_get GProgram.all_set GProgram.pool_get GProgram.pool_set GProgram.preds_get GProgram.preds_set GProgram.rules_get GProgram.rules_set GProgram.strata_get GProgram.strata_set PredInfo.length_enc PredInfo.ok_enc PredInfo.all_get PredInfo.all_set PredInfo.arity_get PredInfo.arity_set PredInfo.base_get PredInfo.base_set PredInfo.stratum_get PredInfo.stratum_set Change.length_enc Change.ok_enc Change.all_get Change.all_set Change.del_get Change.del_set Change.pred_get Change.pred_set Change.t_get Change.t_set Store.length_enc Store.ok_enc Store.all_get Store.all_set Store.names_get Store.names_set Store.arity_get Store.arity_set Store.rows_get Store.rows_set Src.length_enc Src.ok_enc Src.all_get Src.all_set Src.b_get Src.b_set Src.at__get Src.at__set Atom.length_enc Atom.ok_enc Atom.all_get Atom.all_set Atom.pred_get Atom.pred_set Atom.args_get Atom.args_set GRule.length_enc GRule.ok_enc GRule.all_get GRule.all_set GRule.head_get GRule.head_set GRule.body_get GRule.body_set GRule.head_pred_get GRule.head_pred_set GRule.head_args_get GRule.head_args_set Cert.length_enc Cert.ok_enc Cert.all_get Cert.all_set Cert.names_get Cert.names_set Cert.nodes_get Cert.nodes_set Fact.length_enc Fact.ok_enc Fact.all_get Fact.all_set Fact.pred_get Fact.pred_set Fact.t_get Fact.t_set Literal.length_enc Literal.ok_enc Literal.all_get Literal.all_set Literal.neg_get Literal.neg_set Literal.atom_get Literal.atom_set Literal.atom_pred_get Literal.atom_pred_set Literal.atom_args_get Literal.atom_args_set Engine.length_enc Engine.ok_enc Engine.all_get Engine.all_set Engine.prog_get Engine.prog_set Engine.st_get Engine.st_set SrcCertm.length_enc SrcCertm.ok_enc SrcCertm.all_get SrcCertm.all_set SrcCertm.b_get SrcCertm.b_set SrcCertm.at__get SrcCertm.at__set GNode.length_enc GNode.ok_enc GNode.all_get GNode.all_set GNode.rule_get GNode.rule_set GNode.pred_get GNode.pred_set GNode.vals_get GNode.vals_set GNode.refs_get GNode.refs_set Term.length_enc Term.ok_enc Term.all_get Term.all_set Term.var_get Term.var_set Term.n_get Term.n_set Env.length_enc Env.ok_enc Env.all_get Env.all_set Env.val_get Env.val_set Env.set_get Env.set_set
attribute [local go_sem] size_put size_ext blk_put free_put blk_alloc free_alloc blk_drew free_drew blk_ext free_ext lookOr_some putOr_some segAt_some cellAt_some storeIn_some put_put put_alloc_new length_arr ok_arr_u8 ok_arr_u32 ok_arr_u64 ok_arr_i64 ok_arr_sl cellsV_agg cellsV_int cellsV_bool cellsV_string cellsV_pointer cellsV_slice cellsV_sl ok_int ok_bool ok_string ok_pointer ok_slice ok_sl toList_arr seg_arr set_arr nth_splice nth_splice0 seg_splice seg_splice0 splice_splice splice_splice0 length_splice_if
attribute [local go_sem ↓] execOp_box
attribute [local go_sem] box_run nth_arr_u8 put_arr_u8 blk_drewN free_drewN put_drewN blk_raw free_raw
attribute [local go_sem] Tryz.zl75 Tryz.zs75 Tryz.zl52 Tryz.zs52 Tryz.zl53 Tryz.zs53
/-- A step as it lies in memory. -/
structure MStep where
  pred : Int
  row : Sl
  rule : Int
  vals : Sl
def MStep.enc (x : MStep) : List Value := [.int .i64 x.pred, Sl.val x.row, .int .i64 x.rule, Sl.val x.vals]
theorem MStep.len (x : MStep) : x.enc.length = 4 := rfl
theorem MStep.one (x : MStep) : x.enc.all (fun v => v.oneCell') = true := rfl
/-- A step, plainly. -/
structure NStep where
  pred : Nat
  row : NRow
  rule : Nat
  vals : List (List UInt8)
def StC (W : World) (k : MStep) (s : NStep) : Prop := k.pred = (s.pred : Int) ∧ k.rule = (s.rule : Int) ∧ Rw encS 1 W k.row.a k.row.len s.row ∧ Rw encS 1 W k.vals.a k.vals.len s.vals
theorem StC.sub {W W' : World} {k : MStep} {s : NStep} (h : StC W k s) (hs : Sub W W') : StC W' k s := ⟨h.1, h.2.1, h.2.2.1.sub hs, h.2.2.2.sub hs⟩
/-- Steps in memory. -/
def StepsAt (W : World) (a : Option Addr) (n : Nat) (S : List NStep) : Prop := ∃ K : List MStep, Rw MStep.enc 4 W a n K ∧ S.length = n ∧ ∀ (i : Nat) (k : MStep) (s : NStep), K[i]? = some k → S[i]? = some s → StC W k s
theorem StepsAt.sub {W W' : World} {a : Option Addr} {n : Nat} {S : List NStep} (h : StepsAt W a n S) (hs : Sub W W') : StepsAt W' a n S := by
  obtain ⟨K, h1, h2, h3⟩ := h
  exact ⟨K, h1.sub hs, h2, fun i k s e1 e2 => (h3 i k s e1 e2).sub hs⟩
theorem StepsAt.at {W : World} {a : Option Addr} {n : Nat} {S : List NStep} (h : StepsAt W a n S) {i : Nat} {s : NStep} (hs : S[i]? = some s) : ∃ (b : Nat) (C : List Value) (k : MStep), a = some ⟨b, 0, none⟩ ∧ blk W b = some C ∧ i * 4 + 4 ≤ C.length ∧ nth C (i * 4) = some (.int .i64 (s.pred : Int)) ∧ nth C (i * 4 + 1) = some (Sl.val k.row) ∧ nth C (i * 4 + 2) = some (.int .i64 (s.rule : Int)) ∧ nth C (i * 4 + 3) = some (Sl.val k.vals) ∧ StC W k s := by
  obtain ⟨K, h1, h2, h3⟩ := h
  have hi : i < n := by rw [← h2]; exact (List.getElem?_eq_some_iff.1 hs).1
  have hk := List.getElem?_eq_getElem (l := K) (i := i) (by rw [h1.1]; exact hi)
  obtain ⟨b, C, e1, e2, e3, e4⟩ := h1.2 i _ hk
  have h9 := h3 i _ s hk hs
  have hm : (i + 1) * 4 ≤ n * 4 := Nat.mul_le_mul_right _ hi
  refine ⟨b, C, _, e1, e2, by omega, ?_, nth_in (j := 1) e4 rfl (by omega), ?_, nth_in (j := 3) e4 rfl (by omega), h9⟩
  · rw [← h9.1]; exact nth_in (j := 0) e4 rfl (by omega)
  · rw [← h9.2.1]; exact nth_in (j := 2) e4 rfl (by omega)
/-- A fact is among the steps. -/
def knB (S : List NStep) (q : Nat) (r : NRow) : Bool := S.any fun s => decide (s.pred = q) && decide (s.row = r)
theorem knB_no {S : List NStep} {q : Nat} {r : NRow} (h : ∀ (j : Nat) (s : NStep), S[j]? = some s → ¬ (s.pred = q ∧ s.row = r)) : knB S q r = false := by
  unfold knB
  rw [List.any_eq_false]
  intro s hs
  obtain ⟨j, hj⟩ := List.mem_iff_getElem?.1 hs
  have := h j s hj
  simp only [Bool.and_eq_true, decide_eq_true_eq]
  exact this
theorem knB_yes {S : List NStep} {q : Nat} {r : NRow} {j : Nat} {s : NStep} (hs : S[j]? = some s) (h1 : s.pred = q) (h2 : s.row = r) : knB S q r = true := by
  unfold knB
  rw [List.any_eq_true]
  exact ⟨s, List.mem_of_getElem? hs, by rw [decide_eq_true h1, decide_eq_true h2]; rfl⟩
def zKn (W : World) (a : Option Addr) (n c : Nat) (v1 v2 : Value) (S : List NStep) (q : Nat) (r : NRow) (f : Nat → Value) (V : World) : Prop := f 0 = .slice a n c ∧ f 1 = v1 ∧ f 2 = v2 ∧ Hid (∃ k, V = W.drewN k) ∧ ∃ i : Nat, i ≤ n ∧ f 7 = .int .i64 (i : Nat) ∧ Hid (∀ (j : Nat) (s : NStep), j < i → S[j]? = some s → ¬ (s.pred = q ∧ s.row = r))
set_option maxRecDepth 100000 in
theorem zframe30k (f : Nat → Value) : frameN 30 f = #[f 0, f 1, f 2, f 3, f 4, f 5, f 6, f 7, f 8, f 9, f 10, f 11, f 12, f 13, f 14, f 15, f 16, f 17, f 18, f 19, f 20, f 21, f 22, f 23, f 24, f 25, f 26, f 27, f 28, f 29] := by kernel_rfl
set_option maxRecDepth 40000 in
set_option maxHeartbeats 2000000 in
theorem known_any (W : World) (a : Option Addr) (n c : Nat) (hn : n ≤ 1000000000000) (S : List NStep) (hS : StepsAt W a n S) (hr : ∀ s ∈ S, s.row.length ≤ 1000000000000) (q : Nat) (ra : Option Addr) (rn rc : Nat) (r : NRow) (hX : Rw encS 1 W ra rn r) : Calls Tryz.prog 121 #[.slice a n c, .int .i64 (q : Int), .slice ra rn rc] W fun e W' => e = .returned (.bool (knB S q r)) ∧ ∃ k, W' = W.drewN k := by
  obtain ⟨Q, hQ⟩ : ∃ Q : Ending → World → Prop, Q = fun e W' => e = .returned (.bool (knB S q r)) ∧ ∃ k, W' = W.drewN k := ⟨_, rfl⟩
  rw [← hQ]
  have HQ := hid_of hQ
  have HS := hid_of hS
  have HX := hid_of hX
  have HR := hid_of hr
  have HLN : Hid (S.length = n) := hS.choose_spec.2.1
  clear hQ hS hX hr
  go_enter Tryz.func121, Tryz.ntmps121
  go_wp2_with fail
  refine wp_loop_f 30 (zKn W a n c (.int .i64 (q : Int)) (.slice ra rn rc) S q r) (fun f _ => n - (intOf (f 7)).toNat) rfl ⟨rfl, rfl, rfl, ⟨0, rfl⟩, 0, by omega, rfl, fun j x hj => by omega⟩ ?_
  intro F V hrel
  obtain ⟨f0, f1, f2, HV, i, hi, f7, HI⟩ := hrel
  have H7 := hid_of f7
  rw [zframe30k, f0, f1, f2, f7]
  clear f0 f1 f2 f7
  by_cases hin : i < n
  rotate_left 1
  · have hin' : ¬ (i : Int) < (n : Int) := by omega
    have HP : Hid (Q (.returned (.bool false)) V) := by
      show Q _ _
      rw [HQ.out]
      refine ⟨?_, HV.out⟩
      rw [knB_no (fun j s hs => HI.out j s (by have := (List.getElem?_eq_some_iff.1 hs).1; have := HLN.out; omega) hs)]
    clear HI
    go_wp2_with fail
    try go_ret
    exact HP.out
  have hin' : (i : Int) < (n : Int) := by omega
  have i0 : (0 : Int) ≤ (i : Int) := by omega
  have i2 : ((i : Int)).toNat = i := by omega
  obtain ⟨s, hs⟩ : ∃ x, S[i]? = some x := ⟨_, List.getElem?_eq_getElem (by rw [HLN.out]; exact hin)⟩
  obtain ⟨b, C, k, rfl, g1, g2, g3, g4, -, -, g7⟩ := HS.out.at hs
  obtain ⟨kp, ⟨ka, kn, kc⟩, kr, kv⟩ := k
  obtain ⟨-, -, g8, -⟩ := g7
  dsimp only [Sl.val] at g4 g8
  have hCV : blk V b = some C := by obtain ⟨k, hk⟩ := HV.out; rw [hk]; exact g1
  have hsub : Sub W V := by obtain ⟨k, hk⟩ := HV.out; rw [hk]; exact sub_drewN _ _
  have hsl := HR.out s (List.mem_of_getElem? hs)
  have hsm := same_any V ka ra kn rn kc rc (by rw [← g8.1]; exact hsl) s.row r (g8.sub hsub) (HX.out.sub hsub)
  have c1 : i * 4 < C.length := by omega
  have c2 : i * 4 + 1 < C.length := by omega
  obtain ⟨sp, esp⟩ : ∃ sp, sp = s.pred := ⟨_, rfl⟩
  rw [← esp] at g3
  have ESP := hid_of esp
  have HNX : Hid (¬ (s.pred = q ∧ s.row = r) → ∀ (j : Nat) (s : NStep), j < i + 1 → S[j]? = some s → ¬ (s.pred = q ∧ s.row = r)) := fun h9 j y hj hy => by
    by_cases e : j = i
    · rw [e, hs] at hy
      rw [← Option.some.inj hy]; exact h9
    · exact HI.out j y (by omega) hy
  have HYS : Hid (s.pred = q → s.row = r → knB S q r = true) := fun h1 h2 => knB_yes hs h1 h2
  clear g1 g8 hs HI hsl hsub esp
  by_cases hpq : sp = q
  rotate_left 1
  · have nb : ((sp : Int) == (q : Int)) = false := by simp; omega
    have HI' := hid_of (HNX.out (fun h9 => hpq (by rw [ESP.out]; exact h9.1)))
    clear HNX HYS hpq hsm
    go_wp2_with fail
    refine ⟨rfl, rfl, ⟨rfl, rfl, rfl, HV, i + 1, by omega, ?_, HI'⟩, ?_⟩
    · show Value.int .i64 _ = _
      go_num
    · show n - (intOf (Value.int .i64 _)).toNat < n - (intOf (F 7)).toNat
      rw [H7.out]
      simp [intOf]; omega
  have hq0 := ESP.out
  rw [hpq] at hq0 g3
  have HQ0 := hid_of hq0
  clear ESP hpq hq0
  by_cases hxr : s.row = r
  · have HP : ∀ k, Hid (Q (.returned (.bool true)) (V.drewN k)) := fun k => by
      show Q _ _
      rw [HQ.out]
      obtain ⟨k0, hk⟩ := HV.out
      refine ⟨?_, _, by rw [hk, World.drewN_drewN]⟩
      rw [HYS.out HQ0.out.symm hxr]
    rw [decide_eq_true hxr] at hsm
    clear HNX HYS hxr
    go_wp2_with fail
    refine hsm.mono ?_
    rintro e V1 ⟨rfl, k1, rfl⟩
    dsimp only
    clear hsm
    go_wp2_with fail
    try go_ret
    exact (HP _).out
  · rw [decide_eq_false hxr] at hsm
    have HI' := hid_of (HNX.out (fun h9 => hxr h9.2))
    clear HNX HYS hxr
    go_wp2_with fail
    refine hsm.mono ?_
    rintro e V1 ⟨rfl, k1, rfl⟩
    dsimp only
    clear hsm
    go_wp2_with fail
    refine ⟨rfl, rfl, ⟨rfl, rfl, rfl, ?_, i + 1, by omega, ?_, HI'⟩, ?_⟩
    · obtain ⟨k, hk⟩ := HV.out
      exact ⟨_, by rw [hk, World.drewN_drewN]⟩
    · show Value.int .i64 _ = _
      go_num
    · show n - (intOf (Value.int .i64 _)).toNat < n - (intOf (F 7)).toNat
      rw [H7.out]
      simp [intOf]; omega
/-- The body holds under the values. -/
def litB (pool vals : List (List UInt8)) (F : List (List NRow)) (l : PL) : Bool := decide (instF pool vals l.atom ∈ F.getD l.atom.pred []) != l.neg
def holdB (pool vals : List (List UInt8)) (F : List (List NRow)) (Z : List PL) : Bool := Z.all (litB pool vals F)
theorem holdB_yes {pool vals : List (List UInt8)} {F : List (List NRow)} {Z : List PL} (h : ∀ (j : Nat) (z : PL), Z[j]? = some z → litB pool vals F z = true) : holdB pool vals F Z = true := by
  unfold holdB
  rw [List.all_eq_true]
  intro z hz
  obtain ⟨j, hj⟩ := List.mem_iff_getElem?.1 hz
  exact h j z hj
theorem holdB_no {pool vals : List (List UInt8)} {F : List (List NRow)} {Z : List PL} {j : Nat} {z : PL} (hz : Z[j]? = some z) (h : litB pool vals F z = false) : holdB pool vals F Z = false := by
  unfold holdB
  rw [List.all_eq_false]
  exact ⟨z, List.mem_of_getElem? hz, by rw [h]; decide⟩
def zBh (W : World) (v0 v2 v3 : Value) (b5 : Nat) (XE : List Value) (N : Nat) (pool vals : List (List UInt8)) (Fs : List (List NRow)) (Z : List PL) (f : Nat → Value) (V : World) : Prop := f 0 = v0 ∧ f 2 = v2 ∧ f 3 = v3 ∧ f 5 = .pointer (some ⟨b5, 0, none⟩) ∧ ∃ i : Nat, i ≤ N ∧ f 9 = .int .i64 (i : Nat) ∧ Hid (W.Extends V ∧ blk V b5 = some XE ∧ ∀ (j : Nat) (z : PL), j < i → Z[j]? = some z → litB pool vals Fs z = true)
set_option maxRecDepth 100000 in
theorem zframe44b (f : Nat → Value) : frameN 44 f = #[f 0, f 1, f 2, f 3, f 4, f 5, f 6, f 7, f 8, f 9, f 10, f 11, f 12, f 13, f 14, f 15, f 16, f 17, f 18, f 19, f 20, f 21, f 22, f 23, f 24, f 25, f 26, f 27, f 28, f 29, f 30, f 31, f 32, f 33, f 34, f 35, f 36, f 37, f 38, f 39, f 40, f 41, f 42, f 43] := by kernel_rfl
set_option maxRecDepth 40000 in
set_option maxHeartbeats 4000000 in
theorem bodyHolds_any (W : World) (b ob : Nat) (p : PP) (hp : ProgO W b ob p) (x : GRule) (r : PR) (hR : RuleC W x r) (va : Option Addr) (vn vc : Nat) (vals : List (List UInt8)) (hv : Rw encS 1 W va vn vals) (fa : Option Addr) (fn fc : Nat) (Fs : List (List NRow)) (hF : FactsAt W fa fn Fs) (hbl : r.body.length ≤ 1000) (hfit : ∀ z ∈ r.body, InFit p.pool vals z.atom ∧ z.atom.args.length ≤ 1000 ∧ z.atom.pred < Fs.length) (hfl : Fs.length ≤ 1000) (hll : ∀ L ∈ Fs, L.length ≤ 1000000000000 ∧ ∀ r ∈ L, r.length ≤ 1000000000000) : Calls Tryz.prog 120 #[.pointer (some ⟨b, ob, none⟩), .agg x.enc.toArray, .slice va vn vc, .slice fa fn fc] W fun e V => e = .returned (.bool (holdB p.pool vals Fs r.body)) ∧ W.Extends V := by
  obtain ⟨Q, hQ⟩ : ∃ Q : Ending → World → Prop, Q = fun e V => e = .returned (.bool (holdB p.pool vals Fs r.body)) ∧ W.Extends V := ⟨_, rfl⟩
  rw [← hQ]
  have HQ := hid_of hQ
  have HP0 := hid_of hp
  have HR := hid_of hR
  have HV := hid_of hv
  have HF := hid_of hF
  have HFIT := hid_of hfit
  have HLL := hid_of hll
  have hfn : Fs.length = fn := hF.choose_spec.2.1
  have HFN := hid_of hfn
  have hfb : fn ≤ 1000 := by omega
  obtain ⟨xh, xa, xn, xc⟩ := x
  have hxn : r.body.length = xn := by
    obtain ⟨-, Ls, h1, h2, -⟩ := hR
    rw [← h2]; exact h1.1
  have HXN := hid_of hxn
  have hxb : xn ≤ 1000 := by omega
  have xl := GRule.length_enc ⟨xh, ⟨xa, xn, xc⟩⟩
  have xo := GRule.ok_enc ⟨xh, ⟨xa, xn, xc⟩⟩
  have xg : nth (GRule.enc ⟨xh, ⟨xa, xn, xc⟩⟩) 2 = some (.slice xa xn xc) := GRule.body_get _
  obtain ⟨XE, hXE⟩ : ∃ XE, XE = GRule.enc ⟨xh, ⟨xa, xn, xc⟩⟩ := ⟨_, rfl⟩
  rw [← hXE] at xl xo xg ⊢
  have xl1 : 2 < XE.length := by omega
  clear hQ hp hR hv hF hfit hll hfn hfl hbl hxn hXE
  go_enter Tryz.func120, Tryz.ntmps120
  go_upto_region 2 with fail
  obtain ⟨b5, hb5⟩ : ∃ b5, b5 = W.heap.size := ⟨_, rfl⟩
  rw [← hb5]
  refine wp_world (fun V => W.Extends V ∧ blk V b5 = some XE) ⟨extends_alloc (ext_Ext (Ext.refl _)) _, by rw [blk_alloc, if_pos (by omega)]⟩ ?_
  rintro V0 ⟨hx0, hb50⟩
  refine wp_loop_f 44 (zBh W (.pointer (some ⟨b, ob, none⟩)) (.slice va vn vc) (.slice fa fn fc) b5 XE xn p.pool vals Fs r.body) (fun f _ => xn - (intOf (f 9)).toNat) rfl ⟨rfl, rfl, rfl, rfl, 0, by omega, rfl, ⟨hx0, hb50, fun j z hj => by omega⟩⟩ ?_
  clear hx0 hb50 hb5
  intro F V hrel
  obtain ⟨f0, f2, f3, f5, i, hi, f9, HI⟩ := hrel
  have H9 := hid_of f9
  rw [zframe44b, f0, f2, f3, f5, f9]
  clear f0 f2 f3 f5 f9
  obtain ⟨hx, hbx, hall⟩ := HI.out
  have HX := hid_of hx
  have HALL := hid_of hall
  clear HI hx hall
  by_cases hin : i < xn
  rotate_left 1
  · have hin' : ¬ (i : Int) < (xn : Int) := by omega
    have HP : Hid (Q (.returned (.bool true)) V) := by
      show Q _ _
      rw [HQ.out]
      refine ⟨?_, HX.out⟩
      rw [holdB_yes (fun j z hz => HALL.out j z (by have := (List.getElem?_eq_some_iff.1 hz).1; have := HXN.out; omega) hz)]
    clear HALL
    go_wp2_with fail
    try go_ret
    exact HP.out
  have hin' : (i : Int) < (xn : Int) := by omega
  have i0 : (0 : Int) ≤ (i : Int) := by omega
  have i2 : ((i : Int)).toNat = i := by omega
  obtain ⟨z, hz⟩ : ∃ z, r.body[i]? = some z := ⟨_, List.getElem?_eq_getElem (by rw [HXN.out]; exact hin)⟩
  obtain ⟨bl, CL, l, hxa, g1, g2, g3, g4, g5, g6⟩ := lit_at HR.out hz
  dsimp only at hxa
  subst hxa
  obtain ⟨k1, k2, k3⟩ := HFIT.out z (List.mem_of_getElem? hz)
  obtain ⟨Lz, hLz⟩ : ∃ Lz, Fs[z.atom.pred]? = some Lz := ⟨_, List.getElem?_eq_getElem k3⟩
  obtain ⟨bf, CF, sf, rfl, m1, m2, m3, m4⟩ := HF.out.at hLz
  obtain ⟨sa, sn, sc⟩ := sf
  dsimp only at m3 m4
  have hsub : Sub W V := Sub.ext HX.out
  have hsn : Lz.length = sn := m4.choose_spec.2.1
  obtain ⟨n1, n2⟩ := HLL.out Lz (List.mem_of_getElem? hLz)
  have hbl : blk V bl = some CL := (HX.out.blk (blk_lt g1)).trans g1
  have hbf : blk V bf = some CF := (HX.out.blk (blk_lt m1)).trans m1
  have hLg : Fs.getD z.atom.pred [] = Lz := by rw [List.getD_eq_getElem?_getD, hLz]; rfl
  obtain ⟨zp, ezp⟩ : ∃ zp, zp = z.atom.pred := ⟨_, rfl⟩
  have hzp : zp < fn := by rw [ezp, ← HFN.out]; exact k3
  rw [← ezp] at g4 m2 m3
  have c1 : (0 : Int) ≤ (zp : Int) := by omega
  have c2 : ((zp : Int)).toNat = zp := by omega
  have c3 : (zp : Int) < (fn : Int) := by omega
  have d1 : i * 3 < CL.length := by omega
  have d2 : i * 3 + 1 < CL.length := by omega
  have d3 : i * 3 + 1 + 2 ≤ CL.length := by omega
  obtain ⟨LE, eLE⟩ : ∃ LE, LE = l.enc := ⟨_, rfl⟩
  rw [← eLE] at g5
  obtain ⟨zn, ezn⟩ : ∃ zn, zn = z.neg := ⟨_, rfl⟩
  rw [← ezn] at g3
  obtain ⟨vd, evd⟩ : ∃ vd, vd = decide (instF p.pool vals z.atom ∈ Lz) := ⟨_, rfl⟩
  have HLIT : Hid (litB p.pool vals Fs z = (vd != zn)) := by show _ = _; unfold litB; rw [hLg, evd, ezn]
  have hins := instance_any V.drew b ob p (HP0.out.sub (hsub.trans (Sub.ext (extends_drew (ext_Ext (Ext.refl _)))))) l z.atom (g6.sub (hsub.trans (Sub.ext (extends_drew (ext_Ext (Ext.refl _)))))) k2 va vn vc vals (HV.out.sub (hsub.trans (Sub.ext (extends_drew (ext_Ext (Ext.refl _)))))) k1
  rw [← eLE] at hins
  have HMB : Hid (∀ V' ra rc, V.drew.Extends V' → Rw encS 1 V' ra (instF p.pool vals z.atom).length (instF p.pool vals z.atom) → Calls Tryz.prog 32 #[.slice sa sn sc, .slice ra (instF p.pool vals z.atom).length rc] V' fun e W' => e = .returned (.bool vd) ∧ ∃ k, W' = V'.drewN k) := fun V' ra rc h1 h2 => by
    rw [evd]
    exact member_names V' sa ra sn _ sc rc (by omega) Lz _ (m4.sub (hsub.trans (Sub.ext ((extends_drew (ext_Ext (Ext.refl _))).trans h1)))) n2 h2
  have HNX : Hid (litB p.pool vals Fs z = true → ∀ (j : Nat) (z : PL), j < i + 1 → r.body[j]? = some z → litB p.pool vals Fs z = true) := fun h9 j y hj hy => by
    by_cases e : j = i
    · rw [e, hz] at hy
      rw [← Option.some.inj hy]; exact h9
    · exact HALL.out j y (by omega) hy
  have HNO : Hid (litB p.pool vals Fs z = false → holdB p.pool vals Fs r.body = false) := fun h9 => holdB_no hz h9
  obtain ⟨IR, eIR⟩ : ∃ IR, IR = (instF p.pool vals z.atom).length := ⟨_, rfl⟩
  obtain ⟨IF, eIF⟩ : ∃ IF, IF = instF p.pool vals z.atom := ⟨_, rfl⟩
  clear g1 g6 m1 m4 hz hLz hsub hsn n1 n2 k1 k2 k3 hLg ezp hzp eLE ezn evd HALL eIR eIF
  go_upto_region 4 with fail
  repeat go_step
  refine wp_region_held_drew (S := fun W' => blk W' b5 = some XE ∧ blk W' bl = some CL ∧ blk W' bf = some CF) (by kernel_rfl) ⟨hbx, hbl, hbf⟩ (fun hHeld => ?_)
  refine wpAnyH_take (i := 0) (oi := ⟨_, _, _, _, _, _⟩) (v := ?_) rfl (by kernel_rfl) (by kernel_rfl) (by kernel_rfl) (fun _ _ _ h => h) (Or.inl ⟨by rfl, ?_⟩) (by assumption) ?_
  rotate_left 1
  · intro W' hSw
    obtain ⟨hS1, hS2, hS3⟩ := hSw
    go_simp
    try with_reducible rfl
  try simp only [Act.put, List.setIfInBounds_toArray, List.set_cons_zero, List.set_cons_succ]
  refine wpAnyH_take (i := 1) (oi := ⟨_, _, _, _, _, _⟩) (v := ?_) rfl (by kernel_rfl) (by kernel_rfl) (by kernel_rfl) (fun _ _ _ h => h) (Or.inl ⟨by rfl, ?_⟩) (by assumption) ?_
  rotate_left 1
  · intro W' hSw
    obtain ⟨hS1, hS2, hS3⟩ := hSw
    go_simp
    try with_reducible rfl
  try simp only [Act.put, List.setIfInBounds_toArray, List.set_cons_zero, List.set_cons_succ]
  refine wpAnyH_take (i := 2) (oi := ⟨_, _, _, _, _, _⟩) (v := ?_) rfl (by kernel_rfl) (by kernel_rfl) (by kernel_rfl) (fun _ _ _ h => h) (Or.inl ⟨by rfl, ?_⟩) (by assumption) ?_
  rotate_left 1
  · intro W' hSw
    obtain ⟨hS1, hS2, hS3⟩ := hSw
    go_simp
    try with_reducible rfl
  try simp only [Act.put, List.setIfInBounds_toArray, List.set_cons_zero, List.set_cons_succ]
  refine wpAnyH_take (i := 3) (oi := ⟨_, _, _, _, _, _⟩) (v := ?_) rfl (by kernel_rfl) (by kernel_rfl) (by kernel_rfl) (fun _ _ _ h => h) (Or.inl ⟨by rfl, ?_⟩) (by assumption) ?_
  rotate_left 1
  · intro W' hSw
    obtain ⟨hS1, hS2, hS3⟩ := hSw
    go_simp
    try with_reducible rfl
  try simp only [Act.put, List.setIfInBounds_toArray, List.set_cons_zero, List.set_cons_succ]
  refine wpAnyH_take (i := 4) (oi := ⟨_, _, _, _, _, _⟩) (v := ?_) rfl (by kernel_rfl) (by kernel_rfl) (by kernel_rfl) (fun _ _ _ h => h) (Or.inl ⟨by rfl, ?_⟩) (by assumption) ?_
  rotate_left 1
  · intro W' hSw
    obtain ⟨hS1, hS2, hS3⟩ := hSw
    go_simp
    try with_reducible rfl
  try simp only [Act.put, List.setIfInBounds_toArray, List.set_cons_zero, List.set_cons_succ]
  refine wpAnyH_take (i := 5) (oi := ⟨_, _, _, _, _, _⟩) (v := ?_) rfl (by kernel_rfl) (by kernel_rfl) (by kernel_rfl) (fun _ _ _ h => h) (Or.inl ⟨by rfl, ?_⟩) (by assumption) ?_
  rotate_left 1
  · intro W' hSw
    obtain ⟨hS1, hS2, hS3⟩ := hSw
    go_simp
    try with_reducible rfl
  try simp only [Act.put, List.setIfInBounds_toArray, List.set_cons_zero, List.set_cons_succ]
  refine wpAnyH_take (i := 6) (oi := ⟨_, _, _, _, _, _⟩) (v := ?_) rfl (by kernel_rfl) (by kernel_rfl) (by kernel_rfl) (fun _ _ _ h => h) (Or.inl ⟨by rfl, ?_⟩) (by assumption) ?_
  rotate_left 1
  · intro W' hSw
    obtain ⟨hS1, hS2, hS3⟩ := hSw
    go_simp
    try with_reducible rfl
  try simp only [Act.put, List.setIfInBounds_toArray, List.set_cons_zero, List.set_cons_succ]
  refine wpAnyH_take (i := 7) (oi := ⟨_, _, _, _, _, _⟩) (v := ?_) rfl (by kernel_rfl) (by kernel_rfl) (by kernel_rfl) (fun _ _ _ h => h) (Or.inl ⟨by rfl, ?_⟩) (by assumption) ?_
  rotate_left 1
  · intro W' hSw
    obtain ⟨hS1, hS2, hS3⟩ := hSw
    go_simp
    try with_reducible rfl
  try simp only [Act.put, List.setIfInBounds_toArray, List.set_cons_zero, List.set_cons_succ]
  refine wpAnyH_take (i := 8) (oi := ⟨_, _, _, _, _, _⟩) (v := ?_) rfl (by kernel_rfl) (by kernel_rfl) (by kernel_rfl) (fun _ _ _ h => h) (Or.inl ⟨by rfl, ?_⟩) (by assumption) ?_
  rotate_left 1
  · intro W' hSw
    obtain ⟨hS1, hS2, hS3⟩ := hSw
    go_simp
    try with_reducible rfl
  try simp only [Act.put, List.setIfInBounds_toArray, List.set_cons_zero, List.set_cons_succ]
  refine wpAnyH_take (i := 9) (oi := ⟨_, _, _, _, _, _⟩) (v := ?_) rfl (by kernel_rfl) (by kernel_rfl) (by kernel_rfl) (fun _ _ _ h => h) (Or.inl ⟨by rfl, ?_⟩) (by assumption) ?_
  rotate_left 1
  · intro W' hSw
    obtain ⟨hS1, hS2, hS3⟩ := hSw
    go_simp
    try with_reducible rfl
  try simp only [Act.put, List.setIfInBounds_toArray, List.set_cons_zero, List.set_cons_succ]
  refine wpAnyH_take (i := 10) (oi := ⟨_, _, _, _, _, _⟩) (v := ?_) rfl (by kernel_rfl) (by kernel_rfl) (by kernel_rfl) (fun _ _ _ h => h) (Or.inl ⟨by rfl, ?_⟩) (by assumption) ?_
  rotate_left 1
  · intro W' hSw
    obtain ⟨hS1, hS2, hS3⟩ := hSw
    go_simp
    try with_reducible rfl
  try simp only [Act.put, List.setIfInBounds_toArray, List.set_cons_zero, List.set_cons_succ]
  refine wpAnyH_take (i := 11) (oi := ⟨_, _, _, _, _, _⟩) (v := ?_) rfl (by kernel_rfl) (by kernel_rfl) (by kernel_rfl) (fun _ _ _ h => h) (Or.inl ⟨by rfl, ?_⟩) (by assumption) ?_
  rotate_left 1
  · intro W' hSw
    obtain ⟨hS1, hS2, hS3⟩ := hSw
    go_simp
    try with_reducible rfl
  try simp only [Act.put, List.setIfInBounds_toArray, List.set_cons_zero, List.set_cons_succ]
  refine wpAnyH_take (i := 12) (oi := ⟨_, _, _, _, _, _⟩) (v := ?_) rfl (by kernel_rfl) (by kernel_rfl) (by kernel_rfl) (fun _ _ _ h => h) (Or.inl ⟨by rfl, ?_⟩) (by assumption) ?_
  rotate_left 1
  · intro W' hSw
    obtain ⟨hS1, hS2, hS3⟩ := hSw
    go_simp
    try with_reducible rfl
  try simp only [Act.put, List.setIfInBounds_toArray, List.set_cons_zero, List.set_cons_succ]
  refine wpAnyH_take (i := 13) (oi := ⟨_, _, _, _, _, _⟩) (v := ?_) rfl (by kernel_rfl) (by kernel_rfl) (by kernel_rfl) (fun _ _ _ h => h) (Or.inl ⟨by rfl, ?_⟩) (by assumption) ?_
  rotate_left 1
  · intro W' hSw
    obtain ⟨hS1, hS2, hS3⟩ := hSw
    go_simp
    try with_reducible rfl
  try simp only [Act.put, List.setIfInBounds_toArray, List.set_cons_zero, List.set_cons_succ]
  refine wpAnyH_take (i := 14) (oi := ⟨_, _, _, _, _, _⟩) (v := ?_) rfl (by kernel_rfl) (by kernel_rfl) (by kernel_rfl) (fun _ _ _ h => h) (Or.inl ⟨by rfl, ?_⟩) (by assumption) ?_
  rotate_left 1
  · intro W' hSw
    obtain ⟨hS1, hS2, hS3⟩ := hSw
    go_simp
    try with_reducible rfl
  try simp only [Act.put, List.setIfInBounds_toArray, List.set_cons_zero, List.set_cons_succ]
  refine wpAnyH_take (i := 15) (oi := ⟨_, _, _, _, _, _⟩) (v := ?_) rfl (by kernel_rfl) (by kernel_rfl) (by kernel_rfl) (fun _ _ _ h => h) (Or.inl ⟨by rfl, ?_⟩) (by assumption) ?_
  rotate_left 1
  · intro W' hSw
    obtain ⟨hS1, hS2, hS3⟩ := hSw
    go_simp
    try with_reducible rfl
  try simp only [Act.put, List.setIfInBounds_toArray, List.set_cons_zero, List.set_cons_succ]
  refine wpAnyH_take (i := 16) (oi := ⟨_, _, _, _, _, _⟩) (v := ?_) rfl (by kernel_rfl) (by kernel_rfl) (by kernel_rfl) (fun _ _ _ h => h) (Or.inl ⟨by rfl, ?_⟩) (by assumption) ?_
  rotate_left 1
  · intro W' hSw
    obtain ⟨hS1, hS2, hS3⟩ := hSw
    go_simp
    try with_reducible rfl
  try simp only [Act.put, List.setIfInBounds_toArray, List.set_cons_zero, List.set_cons_succ]
  refine wpAnyH_take (i := 17) (oi := ⟨_, _, _, _, _, _⟩) (v := ?_) rfl (by kernel_rfl) (by kernel_rfl) (by kernel_rfl) (fun _ _ _ h => h) (Or.inl ⟨by rfl, ?_⟩) (by assumption) ?_
  rotate_left 1
  · intro W' hSw
    obtain ⟨hS1, hS2, hS3⟩ := hSw
    go_simp
    try with_reducible rfl
  try simp only [Act.put, List.setIfInBounds_toArray, List.set_cons_zero, List.set_cons_succ]
  refine wpAnyH_take (i := 20) (oi := ⟨_, _, _, _, _, _⟩) (v := ?_) rfl (by kernel_rfl) (by kernel_rfl) (by kernel_rfl) (fun _ _ _ h => h) (Or.inl ⟨by rfl, ?_⟩) (by assumption) ?_
  rotate_left 1
  · intro W' hSw
    obtain ⟨hS1, hS2, hS3⟩ := hSw
    go_simp
    try with_reducible rfl
  try simp only [Act.put, List.setIfInBounds_toArray, List.set_cons_zero, List.set_cons_succ]
  refine wpAnyH_take (i := 21) (oi := ⟨_, _, _, _, _, _⟩) (v := ?_) rfl (by kernel_rfl) (by kernel_rfl) (by kernel_rfl) (fun _ _ _ h => h) (Or.inl ⟨by rfl, ?_⟩) (by assumption) ?_
  rotate_left 1
  · intro W' hSw
    obtain ⟨hS1, hS2, hS3⟩ := hSw
    go_simp
    try with_reducible rfl
  try simp only [Act.put, List.setIfInBounds_toArray, List.set_cons_zero, List.set_cons_succ]
  refine wpAnyH_take (i := 22) (oi := ⟨_, _, _, _, _, _⟩) (v := ?_) rfl (by kernel_rfl) (by kernel_rfl) (by kernel_rfl) (fun _ _ _ h => h) (Or.inl ⟨by rfl, ?_⟩) (by assumption) ?_
  rotate_left 1
  · intro W' hSw
    obtain ⟨hS1, hS2, hS3⟩ := hSw
    go_simp
    try with_reducible rfl
  try simp only [Act.put, List.setIfInBounds_toArray, List.set_cons_zero, List.set_cons_succ]
  refine wpAnyH_take (i := 23) (oi := ⟨_, _, _, _, _, _⟩) (v := ?_) rfl (by kernel_rfl) (by kernel_rfl) (by kernel_rfl) (fun _ _ _ h => h) (Or.inl ⟨by rfl, ?_⟩) (by assumption) ?_
  rotate_left 1
  · intro W' hSw
    obtain ⟨hS1, hS2, hS3⟩ := hSw
    go_simp
    try with_reducible rfl
  try simp only [Act.put, List.setIfInBounds_toArray, List.set_cons_zero, List.set_cons_succ]
  refine wpAnyH_take (i := 24) (oi := ⟨_, _, _, _, _, _⟩) (v := ?_) rfl (by kernel_rfl) (by kernel_rfl) (by kernel_rfl) (fun _ _ _ h => h) (Or.inl ⟨by rfl, ?_⟩) (by assumption) ?_
  rotate_left 1
  · intro W' hSw
    obtain ⟨hS1, hS2, hS3⟩ := hSw
    go_simp
    try with_reducible rfl
  try simp only [Act.put, List.setIfInBounds_toArray, List.set_cons_zero, List.set_cons_succ]
  refine wpAnyH_take (i := 25) (oi := ⟨_, _, _, _, _, _⟩) (v := ?_) rfl (by kernel_rfl) (by kernel_rfl) (by kernel_rfl) (fun _ _ _ h => h) (Or.inl ⟨by rfl, ?_⟩) (by assumption) ?_
  rotate_left 1
  · intro W' hSw
    obtain ⟨hS1, hS2, hS3⟩ := hSw
    go_simp
    try with_reducible rfl
  try simp only [Act.put, List.setIfInBounds_toArray, List.set_cons_zero, List.set_cons_succ]
  refine wpAnyH_ready (rs := [18]) (by kernel_rfl) (by simp) ?_
  refine AllReadyH.cons (o := ⟨_, _, _, _, _, _⟩) rfl (fun K' hK => ?_) AllReadyH.nil
  go_simp
  refine hins.mono ?_
  rintro e V1 ⟨ra, rc, rfl, hO1⟩
  dsimp only
  have hx1 : V.drew.Extends V1 := hO1.2.1
  have hmb := HMB.out V1 ra rc hx1 (hO1.rw el78)
  refine hK.out _ _ ⟨(hx1.blk (blk_lt hbx)).trans hbx, (hx1.blk (blk_lt hbl)).trans hbl, (hx1.blk (blk_lt hbf)).trans hbf⟩ (fun hHeld => ?_)
  clear hK K'
  try simp only [Act.put, List.setIfInBounds_toArray, List.set_cons_zero, List.set_cons_succ]
  refine wpAnyH_ready (rs := [19]) (by kernel_rfl) (by simp) ?_
  refine AllReadyH.cons (o := ⟨_, _, _, _, _, _⟩) rfl (fun K' hK => ?_) AllReadyH.nil
  go_simp
  refine hmb.mono ?_
  rintro e V2 ⟨rfl, kk, rfl⟩
  dsimp only
  refine hK.out _ _ ⟨(hx1.blk (blk_lt hbx)).trans hbx, (hx1.blk (blk_lt hbl)).trans hbl, (hx1.blk (blk_lt hbf)).trans hbf⟩ (fun hHeld => ?_)
  clear hK K'
  try simp only [Act.put, List.setIfInBounds_toArray, List.set_cons_zero, List.set_cons_succ]
  refine wpAnyH_take (i := 26) (oi := ⟨_, _, _, _, _, _⟩) (v := ?_) rfl (by kernel_rfl) (by kernel_rfl) (by kernel_rfl) (fun _ _ _ h => h) (Or.inl ⟨by rfl, ?_⟩) (by assumption) ?_
  rotate_left 1
  · intro W' hSw
    obtain ⟨hS1, hS2, hS3⟩ := hSw
    go_simp
    try with_reducible rfl
  try simp only [Act.put, List.setIfInBounds_toArray, List.set_cons_zero, List.set_cons_succ]
  refine wpAnyH_done (by kernel_rfl) ?_ _
  have HX1 : Hid (W.Extends (V1.drewN kk) ∧ blk (V1.drewN kk) b5 = some XE) := ⟨extends_drewN ((extends_drew HX.out).trans hx1) kk, (hx1.blk (blk_lt hbx)).trans hbx⟩
  clear hHeld hins HMB hmb hO1 hx1 hbx hbl hbf
  by_cases hlit : vd = zn
  · subst hlit
    have hvv : (vd == vd) = true := by cases vd <;> rfl
    have HP : Hid (Q (.returned (.bool false)) (V1.drewN kk)) := by
      show Q _ _
      rw [HQ.out]
      refine ⟨?_, HX1.out.1⟩
      rw [HNO.out (by rw [HLIT.out]; cases vd <;> rfl)]
    clear HNO HNX HLIT
    rw [hvv]
    go_wp2_with fail
    try go_ret
    exact HP.out
  · have hvv : (vd == zn) = false := by cases vd <;> cases zn <;> first | rfl | exact absurd rfl hlit
    have HI' : Hid (W.Extends (V1.drewN kk) ∧ blk (V1.drewN kk) b5 = some XE ∧ ∀ (j : Nat) (z : PL), j < i + 1 → r.body[j]? = some z → litB p.pool vals Fs z = true) := ⟨HX1.out.1, HX1.out.2, HNX.out (by rw [HLIT.out]; cases vd <;> cases zn <;> first | rfl | exact absurd rfl hlit)⟩
    clear HNO HNX HLIT hlit
    rw [hvv]
    go_wp2_with fail
    refine ⟨rfl, rfl, ⟨rfl, rfl, rfl, rfl, i + 1, by omega, ?_, HI'⟩, ?_⟩
    · show Value.int .i64 _ = _
      go_num
    · show xn - (intOf (Value.int .i64 _)).toNat < xn - (intOf (F 9)).toNat
      rw [H9.out]
      simp [intOf]; omega
end Go.Proofs.Qxb6500787aGreat
