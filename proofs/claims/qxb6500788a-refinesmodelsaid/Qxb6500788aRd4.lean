import Derived.Test.Qxb6500788aRd3
import Derived.StillTailTactics
import Derived.Deep.QuietTactic
import Derived.BigQuiet
import Derived.Deep.RegionHeld
import Derived.Deep.CutRange
import Derived.Laws.ResultCell
import Derived.Laws.Rows
import Derived.DeepKeys
import Derived.DataBytes
import Derived.Laws.StructEq
import Derived.Laws.AppendOwn
set_option linter.unusedSimpArgs false
set_option linter.unusedVariables false
namespace Go.Proofs.Qxb6500788a
open Go.RowKit Go.Blk
attribute [local go_sem ↓] execOp_load execOp_store execOp_alloc
attribute [local go_sem] Try.ld24 Try.st24 Try.ld25 Try.st25 Try.ld3 Try.st3 Try.ld30 Try.st30 Try.ld36 Try.st36 Try.ld4 Try.st4 Try.ld41 Try.st41 Try.ld50 Try.st50 Try.ld40 Try.st40 Try.ld42 Try.st42 Try.ld89 Try.st89 Try.ld91 Try.st91 Try.ld56 Try.st56 Try.ld97 Try.st97 Try.ld98 Try.st98 Try.ld101 Try.st101 Try.ld104 Try.st104 Try.ld57 Try.st57 Try.ld130 Try.st130 Try.ld2 Try.st2 Try.ld5 Try.st5 Try.ld9 Try.st9 Try.ld12 Try.st12 Try.ld21 Try.st21 Try.ld22 Try.st22 Try.ld29 Try.st29 Try.ld33 Try.st33 Try.ld59 Try.st59 Try.ld62 Try.st62 Try.ld69 Try.st69 Try.ld94 Try.st94 Try.ld96 Try.st96 Try.ld129 Try.st129 Try.ld158 Try.st158 Try.ld162 Try.st162 Try.ld47 Try.st47 Try.ld44 Try.st44 Try.ld137 Try.st137 Try.ld145 Try.st145 Try.ld43 Try.st43 Try.ld27 Try.st27 Try.ld38 Try.st38 Try.ld46 Try.st46 Try.ld49 Try.st49 Try.ld52 Try.st52 Try.ld54 Try.st54 Try.ld61 Try.st61 Try.ld80 Try.st80 Try.ld87 Try.st87 Try.ld93 Try.st93 Try.ld100 Try.st100 Try.ld103 Try.st103 Try.ld106 Try.st106 Try.ld109 Try.st109 Try.ld132 Try.st132 Try.ld147 Try.st147 Try.al47 Try.al44 Try.al137 Try.al145 Try.al43 Try.al27 Try.al38 Try.al46 Try.al49 Try.al52 Try.al54 Try.al61 Try.al80 Try.al87 Try.al93 Try.al100 Try.al103 Try.al106 Try.al109 Try.al132 Try.al147
attribute [local go_sem] GProgram.length_enc GProgram.ok_enc GProgram.all_get GProgram.all_set GProgram.preds_get GProgram.preds_set GProgram.rules_get GProgram.rules_set GProgram.strata_get GProgram.strata_set Answer.length_enc Answer.ok_enc Answer.all_get Answer.all_set Answer.code_get Answer.code_set Answer.n_get Answer.n_set Answer.rows_get Answer.rows_set Term.length_enc Term.ok_enc Term.all_get Term.all_set Term.var_get Term.var_set Term.n_get Term.n_set Atom.length_enc Atom.ok_enc Atom.all_get Atom.all_set Atom.pred_get Atom.pred_set Atom.args_get Atom.args_set GRule.length_enc GRule.ok_enc GRule.all_get GRule.all_set GRule.head_get GRule.head_set GRule.body_get GRule.body_set GRule.head_pred_get GRule.head_pred_set GRule.head_args_get GRule.head_args_set GOp.length_enc GOp.ok_enc GOp.all_get GOp.all_set GOp.kind_get GOp.kind_set GOp.pred_get GOp.pred_set GOp.t_get GOp.t_set GOp.n_get GOp.n_set GOp.base_get GOp.base_set GOp.rule_get GOp.rule_set GOp.rule_head_get GOp.rule_head_set GOp.rule_body_get GOp.rule_body_set GOp.rule_head_pred_get GOp.rule_head_pred_set GOp.rule_head_args_get GOp.rule_head_args_set PredInfo.length_enc PredInfo.ok_enc PredInfo.all_get PredInfo.all_set PredInfo.arity_get PredInfo.arity_set PredInfo.base_get PredInfo.base_set PredInfo.stratum_get PredInfo.stratum_set GStats.length_enc GStats.ok_enc GStats.all_get GStats.all_set GStats.rounds_get GStats.rounds_set GStats.fired_get GStats.fired_set GStats.emitted_get GStats.emitted_set GStats.fresh_get GStats.fresh_set Literal.length_enc Literal.ok_enc Literal.all_get Literal.all_set Literal.neg_get Literal.neg_set Literal.atom_get Literal.atom_set Literal.atom_pred_get Literal.atom_pred_set Literal.atom_args_get Literal.atom_args_set Engine.length_enc Engine.ok_enc Engine.all_get Engine.all_set Engine.prog_get Engine.prog_set Engine.st_get Engine.st_set Engine.levels_get Engine.levels_set Engine.running_get Engine.running_set Engine.stratum_get Engine.stratum_set Engine.round_get Engine.round_set Engine.saved_get Engine.saved_set Engine.stats_get Engine.stats_set Engine.prog_preds_get Engine.prog_preds_set Engine.prog_rules_get Engine.prog_rules_set Engine.prog_strata_get Engine.prog_strata_set Engine.stats_rounds_get Engine.stats_rounds_set Engine.stats_fired_get Engine.stats_fired_set Engine.stats_emitted_get Engine.stats_emitted_set Engine.stats_fresh_get Engine.stats_fresh_set Level.length_enc Level.ok_enc Level.all_get Level.all_set Level.heads_get Level.heads_set Level.jobs_get Level.jobs_set Plan.length_enc Plan.ok_enc Plan.all_get Plan.all_set Plan.rule_get Plan.rule_set Plan.delta_get Plan.delta_set Plan.src_get Plan.src_set Job.length_enc Job.ok_enc Job.all_get Job.all_set Job.full_get Job.full_set Job.deltas_get Job.deltas_set Job.full_rule_get Job.full_rule_set Job.full_delta_get Job.full_delta_set Job.full_src_get Job.full_src_set GState.length_enc GState.ok_enc GState.all_get GState.all_set GState.prog_get GState.prog_set GState.base_get GState.base_set GState.shown_get GState.shown_set GState.prog_preds_get GState.prog_preds_set GState.prog_rules_get GState.prog_rules_set GState.prog_strata_get GState.prog_strata_set Store.length_enc Store.ok_enc Store.all_get Store.all_set Store.arity_get Store.arity_set Store.rows_get Store.rows_set Env.length_enc Env.ok_enc Env.all_get Env.all_set Env.val_get Env.val_set Env.set_get Env.set_set
attribute [local go_sem] size_put size_ext blk_put free_put blk_alloc free_alloc blk_drew free_drew blk_ext free_ext lookOr_some putOr_some segAt_some cellAt_some storeIn_some put_put put_alloc_new length_arr ok_arr_u8 ok_arr_u32 ok_arr_u64 ok_arr_i64 ok_arr_sl cellsV_agg cellsV_int cellsV_bool cellsV_string cellsV_pointer cellsV_slice cellsV_sl ok_int ok_bool ok_string ok_pointer ok_slice ok_sl toList_arr seg_arr set_arr nth_splice nth_splice0 seg_splice seg_splice0 splice_splice splice_splice0 length_splice_if
attribute [local go_sem ↓] execOp_box
attribute [local go_sem] box_run nth_arr_u8 put_arr_u8 blk_drewN free_drewN put_drewN blk_raw free_raw
set_option maxRecDepth 100000 in
theorem frame74 (f : Nat → Value) : frameN 74 f = #[f 0, f 1, f 2, f 3, f 4, f 5, f 6, f 7, f 8, f 9, f 10, f 11, f 12, f 13, f 14, f 15, f 16, f 17, f 18, f 19, f 20, f 21, f 22, f 23, f 24, f 25, f 26, f 27, f 28, f 29, f 30, f 31, f 32, f 33, f 34, f 35, f 36, f 37, f 38, f 39, f 40, f 41, f 42, f 43, f 44, f 45, f 46, f 47, f 48, f 49, f 50, f 51, f 52, f 53, f 54, f 55, f 56, f 57, f 58, f 59, f 60, f 61, f 62, f 63, f 64, f 65, f 66, f 67, f 68, f 69, f 70, f 71, f 72, f 73] := by kernel_rfl
def RuleWf (N : Nat) (P : List PredInfo) (r : GRule) (bn : Nat) (L : List Literal) : Prop :=
  bn ≤ 8 ∧ (0 ≤ r.head.pred ∧ r.head.pred < N) ∧ (∀ x, P[r.head.pred.toNat]? = some x → x.base = false) ∧ ∀ l ∈ L, 0 ≤ l.atom.pred ∧ l.atom.pred < N
def RulePost (w : World) (N : Nat) (P : List PredInfo) (r : GRule) (bn : Nat) (L : List Literal) (e : Ending) (w' : World) : Prop := ∃ b, e = .returned (.bool b) ∧ (b = true → RuleWf N P r bn L) ∧ Ext w w'
def roI (W1 : World) (aP : Option Addr) (N cP b bn : Nat) (L : List Literal) (f : Nat → Value) (W : World) : Prop :=
  f 0 = .slice aP N cP ∧ f 3 = .pointer (some ⟨b, 0, none⟩) ∧ Hid (Ext W1 W) ∧ ∃ i : Nat, i ≤ bn ∧ f 5 = .int .i64 (i : Nat) ∧ Hid (∀ k l, k < i → L[k]? = some l → 0 ≤ l.atom.pred ∧ l.atom.pred < N)
def roJ (W1 : World) (aP : Option Addr) (N cP b bn : Nat) (f : Nat → Value) (W : World) : Prop :=
  f 0 = .slice aP N cP ∧ f 3 = .pointer (some ⟨b, 0, none⟩) ∧ Hid (Ext W1 W) ∧ ∃ i : Nat, i ≤ bn ∧ f 6 = .int .i64 (i : Nat)
set_option maxRecDepth 20000 in
set_option maxHeartbeats 4000000 in
theorem ruleOK_any (w : World) (aP : Option Addr) (N cP bP : Nat) (P : List PredInfo) (hP : At PredInfo.enc 3 w bP 0 aP N P) (hN : N ≤ 64) (hA4 : ∀ x ∈ P, x.arity ≤ 4) (r : GRule) (ba : Option Addr) (bn bc bL oL : Nat) (hsv : Sl.val r.body = .slice ba bn bc) (L : List Literal) (hL : At Literal.enc 10 w bL oL ba bn L) (hbn : bn ≤ 9223372036854775807) :
    Calls Try.prog 70 #[.slice aP N cP, .agg r.enc.toArray] w (RulePost w N P r bn L) := by
  have HP : Hid (At PredInfo.enc 3 w bP 0 aP N P) := hP
  have HA : Hid (∀ x ∈ P, x.arity ≤ 4) := hA4
  have HL : Hid (At Literal.enc 10 w bL oL ba bn L) := hL
  have HSV : Hid (Sl.val r.body = .slice ba bn bc) := hsv
  have HPm : ∀ W, Hid (Ext w W → At PredInfo.enc 3 W bP 0 aP N P) := fun W he => HP.out.mono (fun h0 => by obtain ⟨_, C, h1, _⟩ := HP.out.2 h0; exact he.blk (blk_lt h1))
  have HLm : ∀ W, Hid (Ext w W → At Literal.enc 10 W bL oL ba bn L) := fun W he => HL.out.mono (fun h0 => by obtain ⟨_, C, h1, _⟩ := HL.out.2 h0; exact he.blk (blk_lt h1))
  clear hP hA4 hL
  go_enter Try.func70, Try.ntmps70
  go_upto_region 1 with fail
  refine wp_world (fun W => blk W w.heap.size = some r.enc ∧ Hid (Ext w W)) ⟨?_, (Ext.refl w).alloc _⟩ ?_
  · rw [blk_alloc, if_pos rfl]
  rintro W1 ⟨hb1, HE1⟩
  obtain ⟨b, hb⟩ : ∃ b, b = w.heap.size := ⟨_, rfl⟩
  rw [← hb] at hb1 ⊢
  clear hb
  by_cases h8 : (8 : Int) < (bn : Int)
  · go_wp2_with fail
    go_ret
    exact ⟨false, rfl, fun h => absurd h (by decide), HE1.out⟩
  have hl8 : bn ≤ 8 := by omega
  go_wp2_with fail
  refine (atomOK_any W1 aP N cP bP P ((HPm W1).out HE1.out) hN r.head).mono ?_
  rintro e W2 ⟨r1, rfl, hr1, he⟩
  have HE2 : Hid (Ext w W2) := HE1.out.trans he
  have hb2 : blk W2 b = some r.enc := (he.blk (blk_lt hb1)).trans hb1
  clear hb1 he HE1
  cases r1 with
  | false =>
    go_wp2_with fail
    go_ret
    exact ⟨false, rfl, fun h => absurd h (by decide), HE2.out⟩
  | true =>
  obtain ⟨p0, p1⟩ := hr1 rfl
  have HHd : Hid (0 ≤ r.head.pred ∧ r.head.pred < N) := ⟨p0, p1⟩
  obtain ⟨q, hq⟩ : ∃ q : Nat, r.head.pred = (q : Int) := ⟨r.head.pred.toNat, by omega⟩
  have hqN : q < N := by omega
  obtain ⟨x, C, hx, hap, hC, hCl, hs⟩ := ((HPm W2).out HE2.out).get hqN
  have hBs : nth C (q * 3 + 1) = some (.bool x.base) := nth_in (by simpa using hs) (PredInfo.base_get x) (by omega)
  have HX : Hid (P[r.head.pred.toNat]? = some x) := by show _ = _; rw [hq]; exact hx
  have q0 : (0 : Int) ≤ (q : Int) := by omega
  have q1 : (q : Int) < (N : Int) := by omega
  have q2 : ((q : Int)).toNat = q := by omega
  have l2 : q * 3 + 1 < C.length := by omega
  have hpr := GRule.head_pred_get r
  rw [hq] at hpr
  subst hap
  clear hs hx hCl hr1 p0 p1
  obtain ⟨bs, hbs⟩ : ∃ bs, bs = x.base := ⟨_, rfl⟩
  rw [← hbs] at hBs
  cases bs with
  | true =>
    clear hbs
    go_wp2_with fail
    go_ret
    exact ⟨false, rfl, fun h => absurd h (by decide), HE2.out⟩
  | false =>
  have HBf : Hid (∀ y, P[r.head.pred.toNat]? = some y → y.base = false) := fun y hy => by
    have := HX.out.symm.trans hy
    injection this with h1
    rw [← h1]; exact hbs.symm
  clear hbs HX
  have HB2 : Hid (blk W2 b = some r.enc) := hb2
  go_wp2_with fail
  clear hb2 hBs hC hpr q0 q1 q2 l2
  refine wp_loop_f 74 (roI W2 (some ⟨bP, 0, none⟩) N cP b bn L) (fun f _ => bn - (intOf (f 5)).toNat) rfl ?_ ?_
  · exact ⟨rfl, rfl, Ext.refl _, 0, by omega, rfl, fun k l h => absurd h (Nat.not_lt_zero _)⟩
  intro F W hrel
  obtain ⟨f0, f3, HE, i, hi, f5, HK⟩ := hrel
  have H5 : Hid (F 5 = .int .i64 (i : Nat)) := f5
  rw [frame74, f0, f3, f5]
  clear f0 f3 f5
  have hb : blk W b = some r.enc := (HE.out.blk (blk_lt HB2.out)).trans HB2.out
  by_cases hin : i < bn
  · obtain ⟨l, CL, hl, hba, hCL, hCLl, hls⟩ := ((HLm W).out (HE2.out.trans HE.out)).get hin
    obtain ⟨k0, k1, k3, k2⟩ := lit_cells hls
    have hba2 : Value.slice ba bn bc = .slice (some ⟨bL, oL, none⟩) bn bc := by rw [hba]
    rw [hba2] at hsv
    have HLL : Hid (L[i]? = some l) := hl
    have i0 : (0 : Int) ≤ (i : Int) := by omega
    have i1 : (i : Int) < (bn : Int) := by omega
    have i2 : ((i : Int)).toNat = i := by omega
    have l1 : oL + i * 10 + 1 + 9 ≤ CL.length := by omega
    clear hls hl k0 k1 k2 hCLl hba2 hba
    go_wp2_with fail
    refine (atomOK_any W (some ⟨bP, 0, none⟩) N cP bP P ((HPm W).out (HE2.out.trans HE.out)) hN l.atom).mono ?_
    rintro e W3 ⟨r2, rfl, hr2, he⟩
    have HE3 : Hid (Ext W2 W3) := HE.out.trans he
    clear he hb hCL
    cases r2 with
    | false =>
      go_wp2_with fail
      go_ret
      exact ⟨false, rfl, fun h => absurd h (by decide), HE2.out.trans HE3.out⟩
    | true =>
      have HK' : Hid (∀ k l, k < i + 1 → L[k]? = some l → 0 ≤ l.atom.pred ∧ l.atom.pred < N) := fun k m hk hm => by
        by_cases hki : k < i
        · exact HK.out k m hki hm
        · obtain rfl : k = i := by omega
          have := HLL.out.symm.trans hm
          injection this with h1
          rw [← h1]; exact hr2 rfl
      clear hr2
      go_wp2_with fail
      refine ⟨rfl, rfl, ⟨rfl, rfl, HE3, i + 1, by omega, ?_, HK'⟩, ?_⟩
      · show Value.int .i64 _ = _
        go_num
      · show bn - (intOf (Value.int .i64 _)).toNat < bn - (intOf (F 5)).toNat
        rw [H5.out]
        simp [intOf]; omega
  · obtain rfl : i = bn := by omega
    have HLP : Hid (∀ l ∈ L, 0 ≤ l.atom.pred ∧ l.atom.pred < N) := fun l hl => by
      obtain ⟨k, hk, rfl⟩ := List.mem_iff_getElem.1 hl
      exact HK.out k _ (by rw [← HL.out.1]; exact hk) (List.getElem?_eq_getElem hk)
    have HWF : Hid (RuleWf N P r i L) := ⟨hl8, HHd.out, HBf.out, HLP.out⟩
    clear HK
    go_wp2_with fail
    refine (restricted_any W (some ⟨bP, 0, none⟩) N cP bP P ((HPm W).out (HE2.out.trans HE.out)) hN HA.out r ba i bc bL oL HSV.out L ((HLm W).out (HE2.out.trans HE.out)) hl8 HLP.out r.head HHd.out).mono ?_
    rintro e W3 ⟨r2, rfl, he⟩
    have HE3 : Hid (Ext W2 W3) := HE.out.trans he
    clear he hb HE
    cases r2 with
    | false =>
      go_wp2_with fail
      go_ret
      exact ⟨false, rfl, fun h => absurd h (by decide), HE2.out.trans HE3.out⟩
    | true =>
    go_wp2_with fail
    refine wp_loop_f 74 (roJ W2 (some ⟨bP, 0, none⟩) N cP b i) (fun f _ => i - (intOf (f 6)).toNat) rfl ?_ ?_
    · exact ⟨rfl, rfl, HE3, 0, by omega, rfl⟩
    clear HE3 H5
    intro F W hrel
    obtain ⟨f0, f3, HE, j, hj, f6⟩ := hrel
    have H6 : Hid (F 6 = .int .i64 (j : Nat)) := f6
    rw [frame74, f0, f3, f6]
    clear f0 f3 f6
    have hb : blk W b = some r.enc := (HE.out.blk (blk_lt HB2.out)).trans HB2.out
    by_cases hin : j < i
    · obtain ⟨l, CL, hl, hba, hCL, hCLl, hls⟩ := ((HLm W).out (HE2.out.trans HE.out)).get hin
      obtain ⟨k0, k1, k3, k2⟩ := lit_cells hls
      have hba2 : Value.slice ba i bc = .slice (some ⟨bL, oL, none⟩) i bc := by rw [hba]
      rw [hba2] at hsv
      have HLl : Hid (0 ≤ l.atom.pred ∧ l.atom.pred < N) := HLP.out l (List.mem_of_getElem? hl)
      have i0 : (0 : Int) ≤ (j : Int) := by omega
      have i1 : (j : Int) < (i : Int) := by omega
      have i2 : ((j : Int)).toNat = j := by omega
      have l1 : oL + j * 10 + 10 ≤ CL.length := by omega
      have l3 : oL + j * 10 + 1 + 9 ≤ CL.length := by omega
      clear hls hl k2 hCLl hba2 hba
      obtain ⟨ng, hng⟩ : ∃ ng, ng = l.neg := ⟨_, rfl⟩
      rw [← hng] at k0
      clear hng
      cases ng with
      | false =>
        repeat go_step
        go_quiet (fail)
        go_wp2_with fail
        refine ⟨rfl, rfl, ⟨rfl, rfl, HE.out.drewN _, j + 1, by omega, ?_⟩, ?_⟩
        · show Value.int .i64 _ = _
          go_num
        · show i - (intOf (Value.int .i64 _)).toNat < i - (intOf (F 6)).toNat
          rw [H6.out]
          simp [intOf]; omega
      | true =>
        repeat go_step
        refine wp_region_held_drew (S := fun W' => blk W' b = some r.enc ∧ blk W' bL = some CL) (by kernel_rfl) ⟨hb, hCL⟩ (fun hHeld => ?_)
        refine wpAnyH_take (i := 0) (oi := ⟨_, _, _, _, _, _⟩) (v := ?_) rfl (by kernel_rfl) (by kernel_rfl) (by kernel_rfl) (fun _ _ _ h => h) (Or.inl ⟨by rfl, ?_⟩) (by assumption) ?_
        rotate_left 1
        · intro W' hSw
          obtain ⟨hS1, hS2⟩ := hSw
          go_simp
          try with_reducible rfl
        try simp only [Act.put, List.setIfInBounds_toArray, List.set_cons_zero, List.set_cons_succ]
        refine wpAnyH_take (i := 1) (oi := ⟨_, _, _, _, _, _⟩) (v := ?_) rfl (by kernel_rfl) (by kernel_rfl) (by kernel_rfl) (fun _ _ _ h => h) (Or.inl ⟨by rfl, ?_⟩) (by assumption) ?_
        rotate_left 1
        · intro W' hSw
          obtain ⟨hS1, hS2⟩ := hSw
          go_simp
          try with_reducible rfl
        try simp only [Act.put, List.setIfInBounds_toArray, List.set_cons_zero, List.set_cons_succ]
        refine wpAnyH_take (i := 2) (oi := ⟨_, _, _, _, _, _⟩) (v := ?_) rfl (by kernel_rfl) (by kernel_rfl) (by kernel_rfl) (fun _ _ _ h => h) (Or.inl ⟨by rfl, ?_⟩) (by assumption) ?_
        rotate_left 1
        · intro W' hSw
          obtain ⟨hS1, hS2⟩ := hSw
          go_simp
          try with_reducible rfl
        try simp only [Act.put, List.setIfInBounds_toArray, List.set_cons_zero, List.set_cons_succ]
        refine wpAnyH_take (i := 3) (oi := ⟨_, _, _, _, _, _⟩) (v := ?_) rfl (by kernel_rfl) (by kernel_rfl) (by kernel_rfl) (fun _ _ _ h => h) (Or.inl ⟨by rfl, ?_⟩) (by assumption) ?_
        rotate_left 1
        · intro W' hSw
          obtain ⟨hS1, hS2⟩ := hSw
          go_simp
          try with_reducible rfl
        try simp only [Act.put, List.setIfInBounds_toArray, List.set_cons_zero, List.set_cons_succ]
        refine wpAnyH_take (i := 4) (oi := ⟨_, _, _, _, _, _⟩) (v := ?_) rfl (by kernel_rfl) (by kernel_rfl) (by kernel_rfl) (fun _ _ _ h => h) (Or.inl ⟨by rfl, ?_⟩) (by assumption) ?_
        rotate_left 1
        · intro W' hSw
          obtain ⟨hS1, hS2⟩ := hSw
          go_simp
          try with_reducible rfl
        try simp only [Act.put, List.setIfInBounds_toArray, List.set_cons_zero, List.set_cons_succ]
        refine wpAnyH_take (i := 5) (oi := ⟨_, _, _, _, _, _⟩) (v := ?_) rfl (by kernel_rfl) (by kernel_rfl) (by kernel_rfl) (fun _ _ _ h => h) (Or.inl ⟨by rfl, ?_⟩) (by assumption) ?_
        rotate_left 1
        · intro W' hSw
          obtain ⟨hS1, hS2⟩ := hSw
          go_simp
          try with_reducible rfl
        try simp only [Act.put, List.setIfInBounds_toArray, List.set_cons_zero, List.set_cons_succ]
        refine wpAnyH_take (i := 6) (oi := ⟨_, _, _, _, _, _⟩) (v := ?_) rfl (by kernel_rfl) (by kernel_rfl) (by kernel_rfl) (fun _ _ _ h => h) (Or.inl ⟨by rfl, ?_⟩) (by assumption) ?_
        rotate_left 1
        · intro W' hSw
          obtain ⟨hS1, hS2⟩ := hSw
          go_simp
          try with_reducible rfl
        try simp only [Act.put, List.setIfInBounds_toArray, List.set_cons_zero, List.set_cons_succ]
        refine wpAnyH_take (i := 7) (oi := ⟨_, _, _, _, _, _⟩) (v := ?_) rfl (by kernel_rfl) (by kernel_rfl) (by kernel_rfl) (fun _ _ _ h => h) (Or.inl ⟨by rfl, ?_⟩) (by assumption) ?_
        rotate_left 1
        · intro W' hSw
          obtain ⟨hS1, hS2⟩ := hSw
          go_simp
          try with_reducible rfl
        try simp only [Act.put, List.setIfInBounds_toArray, List.set_cons_zero, List.set_cons_succ]
        refine wpAnyH_take (i := 8) (oi := ⟨_, _, _, _, _, _⟩) (v := ?_) rfl (by kernel_rfl) (by kernel_rfl) (by kernel_rfl) (fun _ _ _ h => h) (Or.inl ⟨by rfl, ?_⟩) (by assumption) ?_
        rotate_left 1
        · intro W' hSw
          obtain ⟨hS1, hS2⟩ := hSw
          go_simp
          try with_reducible rfl
        try simp only [Act.put, List.setIfInBounds_toArray, List.set_cons_zero, List.set_cons_succ]
        refine wpAnyH_take (i := 9) (oi := ⟨_, _, _, _, _, _⟩) (v := ?_) rfl (by kernel_rfl) (by kernel_rfl) (by kernel_rfl) (fun _ _ _ h => h) (Or.inl ⟨by rfl, ?_⟩) (by assumption) ?_
        rotate_left 1
        · intro W' hSw
          obtain ⟨hS1, hS2⟩ := hSw
          go_simp
          try with_reducible rfl
        try simp only [Act.put, List.setIfInBounds_toArray, List.set_cons_zero, List.set_cons_succ]
        refine wpAnyH_take (i := 10) (oi := ⟨_, _, _, _, _, _⟩) (v := ?_) rfl (by kernel_rfl) (by kernel_rfl) (by kernel_rfl) (fun _ _ _ h => h) (Or.inl ⟨by rfl, ?_⟩) (by assumption) ?_
        rotate_left 1
        · intro W' hSw
          obtain ⟨hS1, hS2⟩ := hSw
          go_simp
          try with_reducible rfl
        try simp only [Act.put, List.setIfInBounds_toArray, List.set_cons_zero, List.set_cons_succ]
        refine wpAnyH_take (i := 11) (oi := ⟨_, _, _, _, _, _⟩) (v := ?_) rfl (by kernel_rfl) (by kernel_rfl) (by kernel_rfl) (fun _ _ _ h => h) (Or.inl ⟨by rfl, ?_⟩) (by assumption) ?_
        rotate_left 1
        · intro W' hSw
          obtain ⟨hS1, hS2⟩ := hSw
          go_simp
          try with_reducible rfl
        try simp only [Act.put, List.setIfInBounds_toArray, List.set_cons_zero, List.set_cons_succ]
        refine wpAnyH_take (i := 12) (oi := ⟨_, _, _, _, _, _⟩) (v := ?_) rfl (by kernel_rfl) (by kernel_rfl) (by kernel_rfl) (fun _ _ _ h => h) (Or.inl ⟨by rfl, ?_⟩) (by assumption) ?_
        rotate_left 1
        · intro W' hSw
          obtain ⟨hS1, hS2⟩ := hSw
          go_simp
          try with_reducible rfl
        try simp only [Act.put, List.setIfInBounds_toArray, List.set_cons_zero, List.set_cons_succ]
        refine wpAnyH_take (i := 13) (oi := ⟨_, _, _, _, _, _⟩) (v := ?_) rfl (by kernel_rfl) (by kernel_rfl) (by kernel_rfl) (fun _ _ _ h => h) (Or.inl ⟨by rfl, ?_⟩) (by assumption) ?_
        rotate_left 1
        · intro W' hSw
          obtain ⟨hS1, hS2⟩ := hSw
          go_simp
          try with_reducible rfl
        try simp only [Act.put, List.setIfInBounds_toArray, List.set_cons_zero, List.set_cons_succ]
        refine wpAnyH_take (i := 14) (oi := ⟨_, _, _, _, _, _⟩) (v := ?_) rfl (by kernel_rfl) (by kernel_rfl) (by kernel_rfl) (fun _ _ _ h => h) (Or.inl ⟨by rfl, ?_⟩) (by assumption) ?_
        rotate_left 1
        · intro W' hSw
          obtain ⟨hS1, hS2⟩ := hSw
          go_simp
          try with_reducible rfl
        try simp only [Act.put, List.setIfInBounds_toArray, List.set_cons_zero, List.set_cons_succ]
        refine wpAnyH_ready (rs := [15]) (by kernel_rfl) (by simp) ?_
        refine AllReadyH.cons (o := ⟨_, _, _, _, _, _⟩) rfl (fun K hK => ?_) AllReadyH.nil
        go_simp
        refine (restricted_any W.drew (some ⟨bP, 0, none⟩) N cP bP P ((HPm W.drew).out (HE2.out.trans HE.out.drew)) hN HA.out r ba i bc bL oL HSV.out L ((HLm W.drew).out (HE2.out.trans HE.out.drew)) hl8 HLP.out l.atom HLl.out).mono ?_
        rintro e W3 ⟨r2, rfl, he⟩
        have HE3 : Hid (Ext W2 W3) := HE.out.drew.trans he
        have g1 : blk W3 b = some r.enc := (he.blk (blk_lt hb)).trans hb
        have g2 : blk W3 bL = some CL := (he.blk (blk_lt hCL)).trans hCL
        clear he
        dsimp only
        refine hK.out _ _ ?_ (fun hHeld => ?_)
        · exact ⟨g1, g2⟩
        clear hK K
        try simp only [Act.put, List.setIfInBounds_toArray, List.set_cons_zero, List.set_cons_succ]
        refine wpAnyH_take (i := 16) (oi := ⟨_, _, _, _, _, _⟩) (v := ?_) rfl (by kernel_rfl) (by kernel_rfl) (by kernel_rfl) (fun _ _ _ h => h) (Or.inl ⟨by rfl, ?_⟩) (by assumption) ?_
        rotate_left 1
        · intro W' hSw
          obtain ⟨hS1, hS2⟩ := hSw
          go_simp
          try with_reducible rfl
        try simp only [Act.put, List.setIfInBounds_toArray, List.set_cons_zero, List.set_cons_succ]
        refine wpAnyH_take (i := 17) (oi := ⟨_, _, _, _, _, _⟩) (v := ?_) rfl (by kernel_rfl) (by kernel_rfl) (by kernel_rfl) (fun _ _ _ h => h) (Or.inl ⟨by rfl, ?_⟩) (by assumption) ?_
        rotate_left 1
        · intro W' hSw
          obtain ⟨hS1, hS2⟩ := hSw
          go_simp
          try with_reducible rfl
        try simp only [Act.put, List.setIfInBounds_toArray, List.set_cons_zero, List.set_cons_succ]
        refine wpAnyH_done (by kernel_rfl) ?_ _
        cases r2 with
        | false =>
          go_wp2_with fail
          go_ret
          exact ⟨false, rfl, fun h => absurd h (by decide), HE2.out.trans HE3.out⟩
        | true =>
          go_wp2_with fail
          refine ⟨rfl, rfl, ⟨rfl, rfl, HE3, j + 1, by omega, ?_⟩, ?_⟩
          · show Value.int .i64 _ = _
            go_num
          · show i - (intOf (Value.int .i64 _)).toNat < i - (intOf (F 6)).toNat
            rw [H6.out]
            simp [intOf]; omega
    · obtain rfl : j = i := by omega
      go_wp2_with fail
      go_ret
      exact ⟨true, rfl, fun _ => HWF.out, HE2.out.trans HE.out⟩
end Go.Proofs.Qxb6500788a
