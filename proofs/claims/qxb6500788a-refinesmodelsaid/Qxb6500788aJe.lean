import Derived.Test.Qxb6500788aJd
import Derived.StillTailTactics
import Derived.Deep.QuietTactic
import Derived.BigQuiet
import Derived.Deep.RegionHeld
import Derived.Deep.CutRange
import Derived.Laws.ResultCell
import Derived.Laws.Rows
import Derived.DeepKeys
import Derived.DataBytes
import Derived.Laws.StructEq
import Derived.Laws.AppendOwn
import Derived.Laws.MakeOwn
set_option linter.unusedSimpArgs false
set_option linter.unusedVariables false
namespace Go.Proofs.Qxb6500788a
open Go.RowKit Go.Blk
attribute [local go_sem ↓] execOp_load execOp_store execOp_alloc
attribute [local go_sem] Try.ld24 Try.st24 Try.ld25 Try.st25 Try.ld3 Try.st3 Try.ld30 Try.st30 Try.ld36 Try.st36 Try.ld4 Try.st4 Try.ld41 Try.st41 Try.ld50 Try.st50 Try.ld40 Try.st40 Try.ld42 Try.st42 Try.ld89 Try.st89 Try.ld91 Try.st91 Try.ld56 Try.st56 Try.ld97 Try.st97 Try.ld98 Try.st98 Try.ld101 Try.st101 Try.ld104 Try.st104 Try.ld57 Try.st57 Try.ld130 Try.st130 Try.ld2 Try.st2 Try.ld5 Try.st5 Try.ld9 Try.st9 Try.ld12 Try.st12 Try.ld21 Try.st21 Try.ld22 Try.st22 Try.ld29 Try.st29 Try.ld33 Try.st33 Try.ld59 Try.st59 Try.ld62 Try.st62 Try.ld69 Try.st69 Try.ld94 Try.st94 Try.ld96 Try.st96 Try.ld129 Try.st129 Try.ld158 Try.st158 Try.ld162 Try.st162 Try.ld47 Try.st47 Try.ld44 Try.st44 Try.ld137 Try.st137 Try.ld145 Try.st145 Try.ld43 Try.st43 Try.ld27 Try.st27 Try.ld38 Try.st38 Try.ld46 Try.st46 Try.ld49 Try.st49 Try.ld52 Try.st52 Try.ld54 Try.st54 Try.ld61 Try.st61 Try.ld80 Try.st80 Try.ld87 Try.st87 Try.ld93 Try.st93 Try.ld100 Try.st100 Try.ld103 Try.st103 Try.ld106 Try.st106 Try.ld109 Try.st109 Try.ld132 Try.st132 Try.ld147 Try.st147 Try.al47 Try.al44 Try.al137 Try.al145 Try.al43 Try.al27 Try.al38 Try.al46 Try.al49 Try.al52 Try.al54 Try.al61 Try.al80 Try.al87 Try.al93 Try.al100 Try.al103 Try.al106 Try.al109 Try.al132 Try.al147
attribute [local go_sem] GProgram.length_enc GProgram.ok_enc GProgram.all_get GProgram.all_set GProgram.preds_get GProgram.preds_set GProgram.rules_get GProgram.rules_set GProgram.strata_get GProgram.strata_set Answer.length_enc Answer.ok_enc Answer.all_get Answer.all_set Answer.code_get Answer.code_set Answer.n_get Answer.n_set Answer.rows_get Answer.rows_set Term.length_enc Term.ok_enc Term.all_get Term.all_set Term.var_get Term.var_set Term.n_get Term.n_set Atom.length_enc Atom.ok_enc Atom.all_get Atom.all_set Atom.pred_get Atom.pred_set Atom.args_get Atom.args_set GRule.length_enc GRule.ok_enc GRule.all_get GRule.all_set GRule.head_get GRule.head_set GRule.body_get GRule.body_set GRule.head_pred_get GRule.head_pred_set GRule.head_args_get GRule.head_args_set GOp.length_enc GOp.ok_enc GOp.all_get GOp.all_set GOp.kind_get GOp.kind_set GOp.pred_get GOp.pred_set GOp.t_get GOp.t_set GOp.n_get GOp.n_set GOp.base_get GOp.base_set GOp.rule_get GOp.rule_set GOp.rule_head_get GOp.rule_head_set GOp.rule_body_get GOp.rule_body_set GOp.rule_head_pred_get GOp.rule_head_pred_set GOp.rule_head_args_get GOp.rule_head_args_set PredInfo.length_enc PredInfo.ok_enc PredInfo.all_get PredInfo.all_set PredInfo.arity_get PredInfo.arity_set PredInfo.base_get PredInfo.base_set PredInfo.stratum_get PredInfo.stratum_set GStats.length_enc GStats.ok_enc GStats.all_get GStats.all_set GStats.rounds_get GStats.rounds_set GStats.fired_get GStats.fired_set GStats.emitted_get GStats.emitted_set GStats.fresh_get GStats.fresh_set Literal.length_enc Literal.ok_enc Literal.all_get Literal.all_set Literal.neg_get Literal.neg_set Literal.atom_get Literal.atom_set Literal.atom_pred_get Literal.atom_pred_set Literal.atom_args_get Literal.atom_args_set Engine.length_enc Engine.ok_enc Engine.all_get Engine.all_set Engine.prog_get Engine.prog_set Engine.st_get Engine.st_set Engine.levels_get Engine.levels_set Engine.running_get Engine.running_set Engine.stratum_get Engine.stratum_set Engine.round_get Engine.round_set Engine.saved_get Engine.saved_set Engine.stats_get Engine.stats_set Engine.prog_preds_get Engine.prog_preds_set Engine.prog_rules_get Engine.prog_rules_set Engine.prog_strata_get Engine.prog_strata_set Engine.stats_rounds_get Engine.stats_rounds_set Engine.stats_fired_get Engine.stats_fired_set Engine.stats_emitted_get Engine.stats_emitted_set Engine.stats_fresh_get Engine.stats_fresh_set Level.length_enc Level.ok_enc Level.all_get Level.all_set Level.heads_get Level.heads_set Level.jobs_get Level.jobs_set Plan.length_enc Plan.ok_enc Plan.all_get Plan.all_set Plan.rule_get Plan.rule_set Plan.delta_get Plan.delta_set Plan.src_get Plan.src_set Job.length_enc Job.ok_enc Job.all_get Job.all_set Job.full_get Job.full_set Job.deltas_get Job.deltas_set Job.full_rule_get Job.full_rule_set Job.full_delta_get Job.full_delta_set Job.full_src_get Job.full_src_set GState.length_enc GState.ok_enc GState.all_get GState.all_set GState.prog_get GState.prog_set GState.base_get GState.base_set GState.shown_get GState.shown_set GState.prog_preds_get GState.prog_preds_set GState.prog_rules_get GState.prog_rules_set GState.prog_strata_get GState.prog_strata_set Store.length_enc Store.ok_enc Store.all_get Store.all_set Store.arity_get Store.arity_set Store.rows_get Store.rows_set Env.length_enc Env.ok_enc Env.all_get Env.all_set Env.val_get Env.val_set Env.set_get Env.set_set
attribute [local go_sem] size_put size_ext blk_put free_put blk_alloc free_alloc blk_drew free_drew blk_ext free_ext lookOr_some putOr_some segAt_some cellAt_some storeIn_some put_put put_alloc_new length_arr ok_arr_u8 ok_arr_u32 ok_arr_u64 ok_arr_i64 ok_arr_sl cellsV_agg cellsV_int cellsV_bool cellsV_string cellsV_pointer cellsV_slice cellsV_sl ok_int ok_bool ok_string ok_pointer ok_slice ok_sl toList_arr seg_arr set_arr nth_splice nth_splice0 seg_splice seg_splice0 splice_splice splice_splice0 length_splice_if
attribute [local go_sem ↓] execOp_box
attribute [local go_sem] box_run nth_arr_u8 put_arr_u8 blk_drewN free_drewN put_drewN blk_raw free_raw
theorem rel_at {W : World} {a : Option Addr} {n : Nat} {T : Nat → List Tup} (h : RelR W a n T) {q : Nat} (hq : q < n) : ∃ b C ta tn tc, a = some ⟨b, 0, none⟩ ∧ blk W b = some C ∧ q < C.length ∧ n ≤ C.length ∧ nth C q = some (.slice ta tn tc) ∧ Rw tpl 4 W ta tn (T q) := by
  obtain ⟨Ds, d1, d2⟩ := h
  obtain ⟨d, b1, C1, u1, rfl, u3, u4, u5⟩ := d1.at hq
  rw [Nat.mul_one] at u5 u4
  exact ⟨b1, C1, d.a, d.len, d.cap, rfl, u3, by omega, u4, nth_in (j := 0) u5 rfl (by omega), d2 q d u1⟩
theorem lit_x {V : World} {bL oL : Nat} {ba : Option Addr} {n : Nat} {L : List Literal} (h : At Literal.enc 10 V bL oL ba n L) {j : Nat} {l : Literal} (hl : L[j]? = some l) : ∃ C, ba = some ⟨bL, oL, none⟩ ∧ blk V bL = some C ∧ oL + j * 10 + 10 ≤ C.length ∧ nth C (oL + j * 10) = some (.bool l.neg) ∧ nth C (oL + j * 10 + 1) = some (.int .i64 l.atom.pred) ∧ seg C (oL + j * 10 + 1) 9 = l.atom.enc := by
  have hj : j < n := by rw [← h.1]; exact (List.getElem?_eq_some_iff.1 hl).1
  obtain ⟨x, C, h1, h2, h3, h4, h5⟩ := h.get hj
  obtain rfl : x = l := Option.some.inj (h1.symm.trans hl)
  have := Nat.mul_le_mul_right 10 (show j + 1 ≤ n from hj)
  obtain ⟨g1, g2, g3, _⟩ := lit_cells h5
  exact ⟨C, h2, h3, by omega, g1, g2, g3⟩
/-- A rule's body holds under the values. -/
def BodyH (p : Pg) (k : Nat) (σ : Nat → Int) (T : Nat → List Tup) : Prop := ∀ (i : Nat) (l : Literal), (p.L k)[i]? = some l → (sT l.atom σ (arA p.P l.atom) ∈ T l.atom.pred.toNat ↔ l.neg = false)
def bhI (W : World) (bp b5 b6 : Nat) (a : Option Addr) (n c : Nat) (L : List Literal) (B : Nat → Prop) (f : Nat → Value) (V : World) : Prop := f 0 = .pointer (some ⟨bp, 0, none⟩) ∧ f 3 = .slice a n c ∧ f 5 = .pointer (some ⟨b5, 0, none⟩) ∧ f 6 = .pointer (some ⟨b6, 0, none⟩) ∧ ∃ i : Nat, i ≤ L.length ∧ f 9 = .int .i64 (i : Nat) ∧ Hid (W.Extends V) ∧ Hid (∀ j, j < i → B j)
theorem eql_bool (a b : Bool) : (a == b) = decide (a = b) := by cases a <;> cases b <;> rfl
set_option maxRecDepth 100000 in
theorem frame44b (f : Nat → Value) : frameN 44 f = #[f 0, f 1, f 2, f 3, f 4, f 5, f 6, f 7, f 8, f 9, f 10, f 11, f 12, f 13, f 14, f 15, f 16, f 17, f 18, f 19, f 20, f 21, f 22, f 23, f 24, f 25, f 26, f 27, f 28, f 29, f 30, f 31, f 32, f 33, f 34, f 35, f 36, f 37, f 38, f 39, f 40, f 41, f 42, f 43] := by kernel_rfl
set_option maxRecDepth 20000 in
set_option maxHeartbeats 1000000 in
theorem bodyHolds_any (W : World) (bp : Nat) (p : Pg) (hpg : PgX W bp p) (hok : PgOk p) (k : Nat) (r : GRule) (hr : p.R[k]? = some r) (val : Vector Int 32) (a : Option Addr) (c : Nat) (T : Nat → List Tup) (hR : RelR W a p.P.length T) (hT : ∀ q, q < p.P.length → (T q).length ≤ 10000000000) : Calls Try.prog 77 #[.pointer (some ⟨bp, 0, none⟩), .agg r.enc.toArray, .agg (arr i64v val).toArray, .slice a p.P.length c] W fun e V => ∃ b, e = .returned (.bool b) ∧ (b = true ↔ BodyH p k (vS val) T) ∧ W.Extends V := by
  obtain ⟨Q, hQ⟩ : ∃ Q, Q = (fun e V => ∃ b, e = .returned (.bool b) ∧ (b = true ↔ BodyH p k (vS val) T) ∧ W.Extends V : Ending → World → Prop) := ⟨_, rfl⟩
  rw [← hQ]
  have HQ := hid_of hQ
  have HPG := hid_of hpg
  have HOK := hid_of hok
  have HRR := hid_of hR
  have HT := hid_of hT
  have hN := hok.nP
  have hK8 := hok.b8 k r hr
  have HLF := hid_of (hok.lits k r hr)
  obtain ⟨bL, oL, ba, bc, hsv, hAL⟩ : ∃ bL oL ba bc, Sl.val r.body = .slice ba (p.L k).length bc ∧ At Literal.enc 10 W bL oL ba (p.L k).length (p.L k) := by
    obtain ⟨aP, cP, aR, cR, Cb0, h1, hl0, n0, n1, n2, h2⟩ := hpg
    exact h2.2.2.2.2.2 k r hr
  have hbody := GRule.body_get r
  rw [hsv] at hbody
  have HAL := hid_of hAL
  obtain ⟨L, hL⟩ : ∃ L, L = p.L k := ⟨_, rfl⟩
  rw [← hL] at hbody hK8 HAL HLF
  have HL := hid_of hL
  obtain ⟨B, hBd⟩ : ∃ B : Nat → Prop, B = fun j => ∀ l, L[j]? = some l → (sT l.atom (vS val) (arA p.P l.atom) ∈ T l.atom.pred.toNat ↔ l.neg = false) := ⟨_, rfl⟩
  have HBD := hid_of hBd
  have hr0 := GRule.length_enc r
  obtain ⟨RC, hRC⟩ : ∃ RC, RC = r.enc := ⟨_, rfl⟩
  rw [← hRC] at hbody hr0 ⊢
  clear hQ hpg hR hT hr hsv hAL hL hBd hok hRC
  go_enter Try.func77, Try.ntmps77
  go_upto_region 1 with fail
  refine wp_world (fun V => W.Extends V ∧ blk V W.heap.size = some RC ∧ blk V (W.heap.size + 1) = some (arr i64v val)) ?_ ?_
  · refine ⟨extends_alloc (extends_alloc (ext_Ext (Ext.refl _)) _) _, ?_, ?_⟩
    all_goals first
      | (repeat rw [blk_alloc, if_neg (by simp only [World.size_alloc]; omega)]
         rw [blk_alloc, if_pos (by simp only [World.size_alloc])]
         done)
      | (unfold free
         repeat rw [heap_alloc, if_neg (by simp only [World.size_alloc]; omega)]
         rw [heap_alloc, if_pos (by simp only [World.size_alloc])]
         rfl)
  intro V1 hV1
  try simp only [World.size_alloc]
  obtain ⟨b5, e_b5⟩ : ∃ b, b = W.heap.size := ⟨_, rfl⟩
  obtain ⟨b6, e_b6⟩ : ∃ b, b = W.heap.size + 1 := ⟨_, rfl⟩
  rw [← e_b6] at hV1 ⊢
  rw [← e_b5] at hV1 ⊢
  have hn_b5 : W.heap.size ≤ b5 := by omega
  have n_b5_b6 : ¬ b5 = b6 := by omega
  have n_b6_b5 : ¬ b6 = b5 := by omega
  have hn_b6 : W.heap.size ≤ b6 := by omega
  clear e_b5 e_b6
  obtain ⟨hx1, hb51, hb61⟩ := hV1
  have HX1 := hid_of hx1
  have HB5 := hid_of hb51
  have HB6 := hid_of hb61
  have HE0 : Hid (V1.Extends V1) := ext_Ext (Ext.refl _)
  clear hx1 hb51 hb61
  go_wp2_with fail
  refine wp_loop_f 44 (bhI V1 bp b5 b6 a p.P.length c L B) (fun f _ => L.length - (intOf (f 9)).toNat) rfl ⟨rfl, rfl, rfl, rfl, 0, by omega, rfl, HE0, fun j h => absurd h (Nat.not_lt_zero _)⟩ ?_
  clear HE0
  intro F V hrel
  obtain ⟨f0, f3, f5, f6, i, hi, f9, HE, HJ⟩ := hrel
  have H9 := hid_of f9
  rw [frame44b, f0, f3, f5, f6, f9]
  clear f0 f3 f5 f6 f9
  have hb5 : blk V b5 = some RC := (HE.out.blk (blk_lt HB5.out)).trans HB5.out
  have hb6 : blk V b6 = some (arr i64v val) := (HE.out.blk (blk_lt HB6.out)).trans HB6.out
  have HXW : Hid (W.Extends V) := HX1.out.trans HE.out
  by_cases hin : i < L.length
  · have hin' : (i : Int) < (L.length : Int) := by omega
    obtain ⟨l, hl⟩ : ∃ l, L[i]? = some l := ⟨_, List.getElem?_eq_getElem hin⟩
    have haf := HLF.out l (List.mem_of_getElem? hl)
    obtain ⟨q, hq, hqP⟩ : ∃ q : Nat, l.atom.pred = (q : Int) ∧ q < p.P.length := by
      obtain ⟨q, x, e1, e2, _⟩ := haf
      exact ⟨q, e1, (List.getElem?_eq_some_iff.1 e2).1⟩
    obtain ⟨CL, rfl, l1, l2, l3, l4, l5⟩ := lit_x (HAL.out.grw HXW.out) hl
    rw [hq] at l4
    obtain ⟨br, Cr, ta, tn, tc, rfl, g1, g2, -, g3, g4⟩ := rel_at (HRR.out.ext HXW.out) hqP
    have hin1 := instance_any V.drew bp p ((HPG.out.ext HXW.out).ext (extends_drew (ext_Ext (Ext.refl _)))) HOK.out l.atom val haf
    have hl2 : tn ≤ 10000000000 := by rw [← g4.1]; exact HT.out q hqP
    have HIN := hid_of hin1
    have HG4 := hid_of g4
    have hBi : B i ↔ (sT l.atom (vS val) (arA p.P l.atom) ∈ T q ↔ l.neg = false) := by
      rw [HBD.out]
      refine ⟨fun h => ?_, fun h l' hl' => ?_⟩
      · have := h l hl
        rwa [hq, Int.toNat_natCast] at this
      · obtain rfl : l' = l := Option.some.inj (hl'.symm.trans hl)
        rwa [hq, Int.toNat_natCast]
    obtain ⟨tt, htt⟩ : ∃ tt, tt = sT l.atom (vS val) (arA p.P l.atom) := ⟨_, rfl⟩
    rw [← htt] at HIN hBi
    have HBI := hid_of hBi
    obtain ⟨ng, hng⟩ : ∃ ng, ng = l.neg := ⟨_, rfl⟩
    rw [← hng] at l3 HBI
    obtain ⟨AC, hAC⟩ : ∃ AC, AC = l.atom.enc := ⟨_, rfl⟩
    have hA0 := Atom.length_enc l.atom
    rw [← hAC] at l5 hA0 HIN
    have i0 : (0 : Int) ≤ (i : Int) := by omega
    have i2 : ((i : Int)).toNat = i := by omega
    have q0 : (0 : Int) ≤ (q : Int) := by omega
    have q1 : (q : Int) < (p.P.length : Int) := by omega
    have q2 : ((q : Int)).toNat = q := by omega
    have k1 : oL + i * 10 < CL.length := by omega
    have k2 : oL + i * 10 + 1 < CL.length := by omega
    have k3 : oL + i * 10 + 1 + 9 ≤ CL.length := by omega
    clear hl haf hq hin1 g4 hBi htt hng hAC
    go_upto_region 4 with fail
    refine wp_region_held_drew (S := fun W' => blk W' b5 = some RC ∧ blk W' b6 = some (arr i64v val) ∧ blk W' bL = some CL ∧ blk W' br = some Cr) (by kernel_rfl) ⟨hb5, hb6, l1, g1⟩ (fun hHeld => ?_)
    refine wpAnyH_take (i := 0) (oi := ⟨_, _, _, _, _, _⟩) (v := ?_) rfl (by kernel_rfl) (by kernel_rfl) (by kernel_rfl) (fun _ _ _ h => h) (Or.inl ⟨by rfl, ?_⟩) (by assumption) ?_
    rotate_left 1
    · intro W' hSw
      obtain ⟨hS1, hS2, hS3, hS4⟩ := hSw
      go_simp
      try with_reducible rfl
    try simp only [Act.put, List.setIfInBounds_toArray, List.set_cons_zero, List.set_cons_succ]
    refine wpAnyH_take (i := 1) (oi := ⟨_, _, _, _, _, _⟩) (v := ?_) rfl (by kernel_rfl) (by kernel_rfl) (by kernel_rfl) (fun _ _ _ h => h) (Or.inl ⟨by rfl, ?_⟩) (by assumption) ?_
    rotate_left 1
    · intro W' hSw
      obtain ⟨hS1, hS2, hS3, hS4⟩ := hSw
      go_simp
      try with_reducible rfl
    try simp only [Act.put, List.setIfInBounds_toArray, List.set_cons_zero, List.set_cons_succ]
    refine wpAnyH_take (i := 2) (oi := ⟨_, _, _, _, _, _⟩) (v := ?_) rfl (by kernel_rfl) (by kernel_rfl) (by kernel_rfl) (fun _ _ _ h => h) (Or.inl ⟨by rfl, ?_⟩) (by assumption) ?_
    rotate_left 1
    · intro W' hSw
      obtain ⟨hS1, hS2, hS3, hS4⟩ := hSw
      go_simp
      try with_reducible rfl
    try simp only [Act.put, List.setIfInBounds_toArray, List.set_cons_zero, List.set_cons_succ]
    refine wpAnyH_take (i := 3) (oi := ⟨_, _, _, _, _, _⟩) (v := ?_) rfl (by kernel_rfl) (by kernel_rfl) (by kernel_rfl) (fun _ _ _ h => h) (Or.inl ⟨by rfl, ?_⟩) (by assumption) ?_
    rotate_left 1
    · intro W' hSw
      obtain ⟨hS1, hS2, hS3, hS4⟩ := hSw
      go_simp
      try with_reducible rfl
    try simp only [Act.put, List.setIfInBounds_toArray, List.set_cons_zero, List.set_cons_succ]
    refine wpAnyH_take (i := 4) (oi := ⟨_, _, _, _, _, _⟩) (v := ?_) rfl (by kernel_rfl) (by kernel_rfl) (by kernel_rfl) (fun _ _ _ h => h) (Or.inl ⟨by rfl, ?_⟩) (by assumption) ?_
    rotate_left 1
    · intro W' hSw
      obtain ⟨hS1, hS2, hS3, hS4⟩ := hSw
      go_simp
      try with_reducible rfl
    try simp only [Act.put, List.setIfInBounds_toArray, List.set_cons_zero, List.set_cons_succ]
    refine wpAnyH_take (i := 5) (oi := ⟨_, _, _, _, _, _⟩) (v := ?_) rfl (by kernel_rfl) (by kernel_rfl) (by kernel_rfl) (fun _ _ _ h => h) (Or.inl ⟨by rfl, ?_⟩) (by assumption) ?_
    rotate_left 1
    · intro W' hSw
      obtain ⟨hS1, hS2, hS3, hS4⟩ := hSw
      go_simp
      try with_reducible rfl
    try simp only [Act.put, List.setIfInBounds_toArray, List.set_cons_zero, List.set_cons_succ]
    refine wpAnyH_take (i := 6) (oi := ⟨_, _, _, _, _, _⟩) (v := ?_) rfl (by kernel_rfl) (by kernel_rfl) (by kernel_rfl) (fun _ _ _ h => h) (Or.inl ⟨by rfl, ?_⟩) (by assumption) ?_
    rotate_left 1
    · intro W' hSw
      obtain ⟨hS1, hS2, hS3, hS4⟩ := hSw
      go_simp
      try with_reducible rfl
    try simp only [Act.put, List.setIfInBounds_toArray, List.set_cons_zero, List.set_cons_succ]
    refine wpAnyH_take (i := 7) (oi := ⟨_, _, _, _, _, _⟩) (v := ?_) rfl (by kernel_rfl) (by kernel_rfl) (by kernel_rfl) (fun _ _ _ h => h) (Or.inl ⟨by rfl, ?_⟩) (by assumption) ?_
    rotate_left 1
    · intro W' hSw
      obtain ⟨hS1, hS2, hS3, hS4⟩ := hSw
      go_simp
      try with_reducible rfl
    try simp only [Act.put, List.setIfInBounds_toArray, List.set_cons_zero, List.set_cons_succ]
    refine wpAnyH_take (i := 8) (oi := ⟨_, _, _, _, _, _⟩) (v := ?_) rfl (by kernel_rfl) (by kernel_rfl) (by kernel_rfl) (fun _ _ _ h => h) (Or.inl ⟨by rfl, ?_⟩) (by assumption) ?_
    rotate_left 1
    · intro W' hSw
      obtain ⟨hS1, hS2, hS3, hS4⟩ := hSw
      go_simp
      try with_reducible rfl
    try simp only [Act.put, List.setIfInBounds_toArray, List.set_cons_zero, List.set_cons_succ]
    refine wpAnyH_take (i := 9) (oi := ⟨_, _, _, _, _, _⟩) (v := ?_) rfl (by kernel_rfl) (by kernel_rfl) (by kernel_rfl) (fun _ _ _ h => h) (Or.inl ⟨by rfl, ?_⟩) (by assumption) ?_
    rotate_left 1
    · intro W' hSw
      obtain ⟨hS1, hS2, hS3, hS4⟩ := hSw
      go_simp
      try with_reducible rfl
    try simp only [Act.put, List.setIfInBounds_toArray, List.set_cons_zero, List.set_cons_succ]
    refine wpAnyH_take (i := 10) (oi := ⟨_, _, _, _, _, _⟩) (v := ?_) rfl (by kernel_rfl) (by kernel_rfl) (by kernel_rfl) (fun _ _ _ h => h) (Or.inl ⟨by rfl, ?_⟩) (by assumption) ?_
    rotate_left 1
    · intro W' hSw
      obtain ⟨hS1, hS2, hS3, hS4⟩ := hSw
      go_simp
      try with_reducible rfl
    try simp only [Act.put, List.setIfInBounds_toArray, List.set_cons_zero, List.set_cons_succ]
    refine wpAnyH_take (i := 11) (oi := ⟨_, _, _, _, _, _⟩) (v := ?_) rfl (by kernel_rfl) (by kernel_rfl) (by kernel_rfl) (fun _ _ _ h => h) (Or.inl ⟨by rfl, ?_⟩) (by assumption) ?_
    rotate_left 1
    · intro W' hSw
      obtain ⟨hS1, hS2, hS3, hS4⟩ := hSw
      go_simp
      try with_reducible rfl
    try simp only [Act.put, List.setIfInBounds_toArray, List.set_cons_zero, List.set_cons_succ]
    refine wpAnyH_take (i := 12) (oi := ⟨_, _, _, _, _, _⟩) (v := ?_) rfl (by kernel_rfl) (by kernel_rfl) (by kernel_rfl) (fun _ _ _ h => h) (Or.inl ⟨by rfl, ?_⟩) (by assumption) ?_
    rotate_left 1
    · intro W' hSw
      obtain ⟨hS1, hS2, hS3, hS4⟩ := hSw
      go_simp
      try with_reducible rfl
    try simp only [Act.put, List.setIfInBounds_toArray, List.set_cons_zero, List.set_cons_succ]
    refine wpAnyH_take (i := 13) (oi := ⟨_, _, _, _, _, _⟩) (v := ?_) rfl (by kernel_rfl) (by kernel_rfl) (by kernel_rfl) (fun _ _ _ h => h) (Or.inl ⟨by rfl, ?_⟩) (by assumption) ?_
    rotate_left 1
    · intro W' hSw
      obtain ⟨hS1, hS2, hS3, hS4⟩ := hSw
      go_simp
      try with_reducible rfl
    try simp only [Act.put, List.setIfInBounds_toArray, List.set_cons_zero, List.set_cons_succ]
    refine wpAnyH_take (i := 14) (oi := ⟨_, _, _, _, _, _⟩) (v := ?_) rfl (by kernel_rfl) (by kernel_rfl) (by kernel_rfl) (fun _ _ _ h => h) (Or.inl ⟨by rfl, ?_⟩) (by assumption) ?_
    rotate_left 1
    · intro W' hSw
      obtain ⟨hS1, hS2, hS3, hS4⟩ := hSw
      go_simp
      try with_reducible rfl
    try simp only [Act.put, List.setIfInBounds_toArray, List.set_cons_zero, List.set_cons_succ]
    refine wpAnyH_take (i := 15) (oi := ⟨_, _, _, _, _, _⟩) (v := ?_) rfl (by kernel_rfl) (by kernel_rfl) (by kernel_rfl) (fun _ _ _ h => h) (Or.inl ⟨by rfl, ?_⟩) (by assumption) ?_
    rotate_left 1
    · intro W' hSw
      obtain ⟨hS1, hS2, hS3, hS4⟩ := hSw
      go_simp
      try with_reducible rfl
    try simp only [Act.put, List.setIfInBounds_toArray, List.set_cons_zero, List.set_cons_succ]
    refine wpAnyH_take (i := 16) (oi := ⟨_, _, _, _, _, _⟩) (v := ?_) rfl (by kernel_rfl) (by kernel_rfl) (by kernel_rfl) (fun _ _ _ h => h) (Or.inl ⟨by rfl, ?_⟩) (by assumption) ?_
    rotate_left 1
    · intro W' hSw
      obtain ⟨hS1, hS2, hS3, hS4⟩ := hSw
      go_simp
      try with_reducible rfl
    try simp only [Act.put, List.setIfInBounds_toArray, List.set_cons_zero, List.set_cons_succ]
    refine wpAnyH_take (i := 17) (oi := ⟨_, _, _, _, _, _⟩) (v := ?_) rfl (by kernel_rfl) (by kernel_rfl) (by kernel_rfl) (fun _ _ _ h => h) (Or.inl ⟨by rfl, ?_⟩) (by assumption) ?_
    rotate_left 1
    · intro W' hSw
      obtain ⟨hS1, hS2, hS3, hS4⟩ := hSw
      go_simp
      try with_reducible rfl
    try simp only [Act.put, List.setIfInBounds_toArray, List.set_cons_zero, List.set_cons_succ]
    refine wpAnyH_take (i := 20) (oi := ⟨_, _, _, _, _, _⟩) (v := ?_) rfl (by kernel_rfl) (by kernel_rfl) (by kernel_rfl) (fun _ _ _ h => h) (Or.inl ⟨by rfl, ?_⟩) (by assumption) ?_
    rotate_left 1
    · intro W' hSw
      obtain ⟨hS1, hS2, hS3, hS4⟩ := hSw
      go_simp
      try with_reducible rfl
    try simp only [Act.put, List.setIfInBounds_toArray, List.set_cons_zero, List.set_cons_succ]
    refine wpAnyH_take (i := 21) (oi := ⟨_, _, _, _, _, _⟩) (v := ?_) rfl (by kernel_rfl) (by kernel_rfl) (by kernel_rfl) (fun _ _ _ h => h) (Or.inl ⟨by rfl, ?_⟩) (by assumption) ?_
    rotate_left 1
    · intro W' hSw
      obtain ⟨hS1, hS2, hS3, hS4⟩ := hSw
      go_simp
      try with_reducible rfl
    try simp only [Act.put, List.setIfInBounds_toArray, List.set_cons_zero, List.set_cons_succ]
    refine wpAnyH_take (i := 22) (oi := ⟨_, _, _, _, _, _⟩) (v := ?_) rfl (by kernel_rfl) (by kernel_rfl) (by kernel_rfl) (fun _ _ _ h => h) (Or.inl ⟨by rfl, ?_⟩) (by assumption) ?_
    rotate_left 1
    · intro W' hSw
      obtain ⟨hS1, hS2, hS3, hS4⟩ := hSw
      go_simp
      try with_reducible rfl
    try simp only [Act.put, List.setIfInBounds_toArray, List.set_cons_zero, List.set_cons_succ]
    refine wpAnyH_take (i := 23) (oi := ⟨_, _, _, _, _, _⟩) (v := ?_) rfl (by kernel_rfl) (by kernel_rfl) (by kernel_rfl) (fun _ _ _ h => h) (Or.inl ⟨by rfl, ?_⟩) (by assumption) ?_
    rotate_left 1
    · intro W' hSw
      obtain ⟨hS1, hS2, hS3, hS4⟩ := hSw
      go_simp
      try with_reducible rfl
    try simp only [Act.put, List.setIfInBounds_toArray, List.set_cons_zero, List.set_cons_succ]
    refine wpAnyH_take (i := 24) (oi := ⟨_, _, _, _, _, _⟩) (v := ?_) rfl (by kernel_rfl) (by kernel_rfl) (by kernel_rfl) (fun _ _ _ h => h) (Or.inl ⟨by rfl, ?_⟩) (by assumption) ?_
    rotate_left 1
    · intro W' hSw
      obtain ⟨hS1, hS2, hS3, hS4⟩ := hSw
      go_simp
      try with_reducible rfl
    try simp only [Act.put, List.setIfInBounds_toArray, List.set_cons_zero, List.set_cons_succ]
    refine wpAnyH_take (i := 25) (oi := ⟨_, _, _, _, _, _⟩) (v := ?_) rfl (by kernel_rfl) (by kernel_rfl) (by kernel_rfl) (fun _ _ _ h => h) (Or.inl ⟨by rfl, ?_⟩) (by assumption) ?_
    rotate_left 1
    · intro W' hSw
      obtain ⟨hS1, hS2, hS3, hS4⟩ := hSw
      go_simp
      try with_reducible rfl
    try simp only [Act.put, List.setIfInBounds_toArray, List.set_cons_zero, List.set_cons_succ]
    refine wpAnyH_ready (rs := [18]) (by kernel_rfl) (by simp) ?_
    refine AllReadyH.cons (o := ⟨_, _, _, _, _, _⟩) rfl (fun K' hK => ?_) AllReadyH.nil
    go_simp
    refine HIN.out.mono ?_
    rintro en V2 ⟨rfl, hx2⟩
    have HX2 := hid_of hx2
    have u5 : blk V2 b5 = some RC := (hx2.blk (blk_lt hb5)).trans hb5
    have u6 : blk V2 b6 = some (arr i64v val) := (hx2.blk (blk_lt hb6)).trans hb6
    have u7 : blk V2 bL = some CL := (hx2.blk (blk_lt l1)).trans l1
    have u8 : blk V2 br = some Cr := (hx2.blk (blk_lt g1)).trans g1
    have hme := memberM_any V2 ta tn tc (T q) ((HG4.out.grow (extends_drew (ext_Ext (Ext.refl _)))).grow hx2) hl2 tt
    have HME := hid_of hme
    clear hx2 HIN hme
    dsimp only
    refine hK.out _ _ ⟨u5, u6, u7, u8⟩ (fun hHeld => ?_)
    clear hK K'
    try simp only [Act.put, List.setIfInBounds_toArray, List.set_cons_zero, List.set_cons_succ]
    refine wpAnyH_ready (rs := [19]) (by kernel_rfl) (by simp) ?_
    refine AllReadyH.cons (o := ⟨_, _, _, _, _, _⟩) rfl (fun K' hK => ?_) AllReadyH.nil
    go_simp
    refine HME.out.mono ?_
    rintro en V3 ⟨rfl, hx3⟩
    have HX3 := hid_of hx3
    have w5 : blk V3 b5 = some RC := (hx3.blk (blk_lt u5)).trans u5
    have w6 : blk V3 b6 = some (arr i64v val) := (hx3.blk (blk_lt u6)).trans u6
    have w7 : blk V3 bL = some CL := (hx3.blk (blk_lt u7)).trans u7
    have w8 : blk V3 br = some Cr := (hx3.blk (blk_lt u8)).trans u8
    clear hx3 HME u5 u6 u7 u8
    dsimp only
    refine hK.out _ _ ⟨w5, w6, w7, w8⟩ (fun hHeld => ?_)
    clear hK K'
    try simp only [Act.put, List.setIfInBounds_toArray, List.set_cons_zero, List.set_cons_succ]
    refine wpAnyH_take (i := 26) (oi := ⟨_, _, _, _, _, _⟩) (v := ?_) rfl (by kernel_rfl) (by kernel_rfl) (by kernel_rfl) (fun _ _ _ h => h) (Or.inl ⟨by rfl, ?_⟩) (by assumption) ?_
    rotate_left 1
    · intro W' hSw
      obtain ⟨hS1, hS2, hS3, hS4⟩ := hSw
      go_simp
      try with_reducible rfl
    try simp only [Act.put, List.setIfInBounds_toArray, List.set_cons_zero, List.set_cons_succ]
    refine wpAnyH_done (by kernel_rfl) ?_ _
    clear hHeld
    have HE' : Hid (V1.Extends V3) := (HE.out.trans (extends_drew (ext_Ext (Ext.refl _)))).trans (HX2.out.trans HX3.out)
    by_cases hbi : B i
    · have hdn : decide (tt ∈ T q) = !ng := by
        cases ng with
        | false => exact decide_eq_true (((HBI.out).1 hbi).2 rfl)
        | true => exact decide_eq_false (fun h => by have := ((HBI.out).1 hbi).1 h; cases this)
      have hres : (decide (tt ∈ T q) == ng) = false := by rw [hdn]; cases ng <;> rfl
      have HJ' : Hid (∀ j, j < i + 1 → B j) := by
        intro j hj
        by_cases h3 : j = i
        · subst h3; exact hbi
        · exact HJ.out j (by omega)
      clear HJ HBI hbi HE HX2 HX3 hdn
      try rw [hres]
      go_wp2_with fail
      refine ⟨rfl, rfl, ⟨rfl, rfl, rfl, rfl, i + 1, by omega, ?_, HE', HJ'⟩, ?_⟩
      · show Value.int .i64 _ = _
        go_num
      · show L.length - (intOf (Value.int .i64 _)).toNat < L.length - (intOf (F 9)).toNat
        rw [H9.out]
        simp [intOf]; omega
    · have hdn : decide (tt ∈ T q) = ng := by
        cases ng with
        | false => exact decide_eq_false (fun h => hbi (HBI.out.2 ⟨fun _ => rfl, fun _ => h⟩))
        | true => exact decide_eq_true (Classical.byContradiction fun h => hbi (HBI.out.2 ⟨fun h1 => absurd h1 h, fun h1 => (by cases h1)⟩))
      have hres : (decide (tt ∈ T q) == ng) = true := by rw [hdn]; cases ng <;> rfl
      have HP : Hid (Q (.returned (.bool false)) V3) := by
        show Q _ _
        rw [HQ.out]
        refine ⟨false, rfl, ⟨fun h => (by cases h), fun h => absurd ?_ hbi⟩, HX1.out.trans HE'.out⟩
        rw [HBD.out, HL.out]
        exact fun l hl => h i l hl
      clear HJ HBI hbi HE HX2 HX3 hdn HE'
      try rw [hres]
      go_wp2_with fail
      try go_ret
      exact HP.out
  · obtain rfl : i = L.length := by omega
    have hin' : ¬ ((L.length : Int) < (L.length : Int)) := by omega
    have HP : Hid (Q (.returned (.bool true)) V) := by
      show Q _ _
      rw [HQ.out]
      refine ⟨true, rfl, ⟨fun _ j l hl => ?_, fun _ => rfl⟩, HXW.out⟩
      rw [← HL.out] at hl
      have h1 := HJ.out j (List.getElem?_eq_some_iff.1 hl).1
      rw [HBD.out] at h1
      exact h1 l hl
    clear HJ HE HXW
    go_wp2_with fail
    try go_ret
    exact HP.out
end Go.Proofs.Qxb6500788a
