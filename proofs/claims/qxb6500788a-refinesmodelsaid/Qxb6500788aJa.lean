import Derived.Test.Qxb6500788aPf
import Derived.StillTailTactics
import Derived.Deep.QuietTactic
import Derived.BigQuiet
import Derived.Deep.RegionHeld
import Derived.Deep.CutRange
import Derived.Laws.ResultCell
import Derived.Laws.Rows
import Derived.DeepKeys
import Derived.DataBytes
import Derived.Laws.StructEq
import Derived.Laws.AppendOwn
import Derived.Laws.MakeOwn
set_option linter.unusedSimpArgs false
set_option linter.unusedVariables false
namespace Go.Proofs.Qxb6500788a
open Go.RowKit Go.Blk
attribute [local go_sem ↓] execOp_load execOp_store execOp_alloc
attribute [local go_sem] Try.ld24 Try.st24 Try.ld25 Try.st25 Try.ld3 Try.st3 Try.ld30 Try.st30 Try.ld36 Try.st36 Try.ld4 Try.st4 Try.ld41 Try.st41 Try.ld50 Try.st50 Try.ld40 Try.st40 Try.ld42 Try.st42 Try.ld89 Try.st89 Try.ld91 Try.st91 Try.ld56 Try.st56 Try.ld97 Try.st97 Try.ld98 Try.st98 Try.ld101 Try.st101 Try.ld104 Try.st104 Try.ld57 Try.st57 Try.ld130 Try.st130 Try.ld2 Try.st2 Try.ld5 Try.st5 Try.ld9 Try.st9 Try.ld12 Try.st12 Try.ld21 Try.st21 Try.ld22 Try.st22 Try.ld29 Try.st29 Try.ld33 Try.st33 Try.ld59 Try.st59 Try.ld62 Try.st62 Try.ld69 Try.st69 Try.ld94 Try.st94 Try.ld96 Try.st96 Try.ld129 Try.st129 Try.ld158 Try.st158 Try.ld162 Try.st162 Try.ld47 Try.st47 Try.ld44 Try.st44 Try.ld137 Try.st137 Try.ld145 Try.st145 Try.ld43 Try.st43 Try.ld27 Try.st27 Try.ld38 Try.st38 Try.ld46 Try.st46 Try.ld49 Try.st49 Try.ld52 Try.st52 Try.ld54 Try.st54 Try.ld61 Try.st61 Try.ld80 Try.st80 Try.ld87 Try.st87 Try.ld93 Try.st93 Try.ld100 Try.st100 Try.ld103 Try.st103 Try.ld106 Try.st106 Try.ld109 Try.st109 Try.ld132 Try.st132 Try.ld147 Try.st147 Try.al47 Try.al44 Try.al137 Try.al145 Try.al43 Try.al27 Try.al38 Try.al46 Try.al49 Try.al52 Try.al54 Try.al61 Try.al80 Try.al87 Try.al93 Try.al100 Try.al103 Try.al106 Try.al109 Try.al132 Try.al147
attribute [local go_sem] GProgram.length_enc GProgram.ok_enc GProgram.all_get GProgram.all_set GProgram.preds_get GProgram.preds_set GProgram.rules_get GProgram.rules_set GProgram.strata_get GProgram.strata_set Answer.length_enc Answer.ok_enc Answer.all_get Answer.all_set Answer.code_get Answer.code_set Answer.n_get Answer.n_set Answer.rows_get Answer.rows_set Term.length_enc Term.ok_enc Term.all_get Term.all_set Term.var_get Term.var_set Term.n_get Term.n_set Atom.length_enc Atom.ok_enc Atom.all_get Atom.all_set Atom.pred_get Atom.pred_set Atom.args_get Atom.args_set GRule.length_enc GRule.ok_enc GRule.all_get GRule.all_set GRule.head_get GRule.head_set GRule.body_get GRule.body_set GRule.head_pred_get GRule.head_pred_set GRule.head_args_get GRule.head_args_set GOp.length_enc GOp.ok_enc GOp.all_get GOp.all_set GOp.kind_get GOp.kind_set GOp.pred_get GOp.pred_set GOp.t_get GOp.t_set GOp.n_get GOp.n_set GOp.base_get GOp.base_set GOp.rule_get GOp.rule_set GOp.rule_head_get GOp.rule_head_set GOp.rule_body_get GOp.rule_body_set GOp.rule_head_pred_get GOp.rule_head_pred_set GOp.rule_head_args_get GOp.rule_head_args_set PredInfo.length_enc PredInfo.ok_enc PredInfo.all_get PredInfo.all_set PredInfo.arity_get PredInfo.arity_set PredInfo.base_get PredInfo.base_set PredInfo.stratum_get PredInfo.stratum_set GStats.length_enc GStats.ok_enc GStats.all_get GStats.all_set GStats.rounds_get GStats.rounds_set GStats.fired_get GStats.fired_set GStats.emitted_get GStats.emitted_set GStats.fresh_get GStats.fresh_set Literal.length_enc Literal.ok_enc Literal.all_get Literal.all_set Literal.neg_get Literal.neg_set Literal.atom_get Literal.atom_set Literal.atom_pred_get Literal.atom_pred_set Literal.atom_args_get Literal.atom_args_set Engine.length_enc Engine.ok_enc Engine.all_get Engine.all_set Engine.prog_get Engine.prog_set Engine.st_get Engine.st_set Engine.levels_get Engine.levels_set Engine.running_get Engine.running_set Engine.stratum_get Engine.stratum_set Engine.round_get Engine.round_set Engine.saved_get Engine.saved_set Engine.stats_get Engine.stats_set Engine.prog_preds_get Engine.prog_preds_set Engine.prog_rules_get Engine.prog_rules_set Engine.prog_strata_get Engine.prog_strata_set Engine.stats_rounds_get Engine.stats_rounds_set Engine.stats_fired_get Engine.stats_fired_set Engine.stats_emitted_get Engine.stats_emitted_set Engine.stats_fresh_get Engine.stats_fresh_set Level.length_enc Level.ok_enc Level.all_get Level.all_set Level.heads_get Level.heads_set Level.jobs_get Level.jobs_set Plan.length_enc Plan.ok_enc Plan.all_get Plan.all_set Plan.rule_get Plan.rule_set Plan.delta_get Plan.delta_set Plan.src_get Plan.src_set Job.length_enc Job.ok_enc Job.all_get Job.all_set Job.full_get Job.full_set Job.deltas_get Job.deltas_set Job.full_rule_get Job.full_rule_set Job.full_delta_get Job.full_delta_set Job.full_src_get Job.full_src_set GState.length_enc GState.ok_enc GState.all_get GState.all_set GState.prog_get GState.prog_set GState.base_get GState.base_set GState.shown_get GState.shown_set GState.prog_preds_get GState.prog_preds_set GState.prog_rules_get GState.prog_rules_set GState.prog_strata_get GState.prog_strata_set Store.length_enc Store.ok_enc Store.all_get Store.all_set Store.arity_get Store.arity_set Store.rows_get Store.rows_set Env.length_enc Env.ok_enc Env.all_get Env.all_set Env.val_get Env.val_set Env.set_get Env.set_set
attribute [local go_sem] size_put size_ext blk_put free_put blk_alloc free_alloc blk_drew free_drew blk_ext free_ext lookOr_some putOr_some segAt_some cellAt_some storeIn_some put_put put_alloc_new length_arr ok_arr_u8 ok_arr_u32 ok_arr_u64 ok_arr_i64 ok_arr_sl cellsV_agg cellsV_int cellsV_bool cellsV_string cellsV_pointer cellsV_slice cellsV_sl ok_int ok_bool ok_string ok_pointer ok_slice ok_sl toList_arr seg_arr set_arr nth_splice nth_splice0 seg_splice seg_splice0 splice_splice splice_splice0 length_splice_if
attribute [local go_sem ↓] execOp_box
attribute [local go_sem] box_run nth_arr_u8 put_arr_u8 blk_drewN free_drewN put_drewN blk_raw free_raw
/-- A program's three cells at the head of a block. -/
def PgX (W : World) (bp : Nat) (p : Pg) : Prop := ∃ aP cP aR cR Cb, blk W bp = some Cb ∧ 3 ≤ Cb.length ∧ nth Cb 0 = some (.slice aP p.P.length cP) ∧ nth Cb 1 = some (.slice aR p.R.length cR) ∧ nth Cb 2 = some (.int .i64 (p.St : Int)) ∧ PrgC W ⟨⟨aP, p.P.length, cP⟩, ⟨aR, p.R.length, cR⟩, p.St⟩ p
theorem PgX.ext {W W' : World} {bp : Nat} {p : Pg} (h : PgX W bp p) (he : W.Extends W') : PgX W' bp p := by
  obtain ⟨aP, cP, aR, cR, Cb, h1, hl, n0, n1, n2, h2⟩ := h
  exact ⟨aP, cP, aR, cR, Cb, (he.blk (blk_lt h1)).trans h1, hl, n0, n1, n2, h2.ext he⟩
theorem PgX.sub {W W' : World} {bp : Nat} {p : Pg} (h : PgX W bp p) (he : Sub W W') : PgX W' bp p := by
  obtain ⟨aP, cP, aR, cR, Cb, h1, hl, n0, n1, n2, h2⟩ := h
  exact ⟨aP, cP, aR, cR, Cb, he _ _ h1, hl, n0, n1, n2, h2.sub he⟩
theorem pgb_ar {W : World} {bp : Nat} {p : Pg} (h : PgX W bp p) {a : Atom} (hf : AFit p.P a) : ∃ (cP : Nat) (Cb CP : List Value) (bP q : Nat), blk W bp = some Cb ∧ 3 ≤ Cb.length ∧ nth Cb 0 = some (.slice (some ⟨bP, 0, none⟩) p.P.length cP) ∧ nth a.enc 0 = some (.int .i64 (q : Int)) ∧ q < p.P.length ∧ blk W bP = some CP ∧ q * 3 + 3 ≤ CP.length ∧ nth CP (q * 3) = some (.int .i64 ((arA p.P a : Nat) : Int)) ∧ Fit a (arA p.P a) ∧ a.pred.toNat = q := by
  obtain ⟨aP, cP, aR, cR, Cb, h1, hl, n0, n1, n2, h2⟩ := h
  obtain ⟨q, x, e1, e2, e3, e4⟩ := hf
  have hq := (List.getElem?_eq_some_iff.1 e2).1
  obtain ⟨bP, CP, g1, g2, g3, g4, g5, g6⟩ := pred_all h2 hq
  have hx : p.P.getD q ⟨0, false, 0⟩ = x := by rw [List.getD_eq_getElem?_getD, e2]; rfl
  have har : arA p.P a = x.arity.toNat := by unfold arA; rw [e1, Int.toNat_natCast, hx]
  have g1' : aP = some ⟨bP, 0, none⟩ := g1
  subst g1'
  refine ⟨cP, _, CP, bP, q, h1, hl, n0, ?_, hq, g2, g3, ?_, by rw [har]; exact e4, by rw [e1, Int.toNat_natCast]⟩
  · rw [← e1]; exact Atom.pred_get a
  · rw [g6, har, hx, Int.toNat_of_nonneg e3]
theorem afit_fit {p : Pg} {a : Atom} (hf : AFit p.P a) : Fit a (arA p.P a) := by
  obtain ⟨q, x, e1, e2, e3, e4⟩ := hf
  have hx : p.P.getD q ⟨0, false, 0⟩ = x := by rw [List.getD_eq_getElem?_getD, e2]; rfl
  have har : arA p.P a = x.arity.toNat := by unfold arA; rw [e1, Int.toNat_natCast, hx]
  rw [har]; exact e4
/-- member -/
def meMI (W0 : World) (a : Option Addr) (n c b3 : Nat) (L : List Tup) (t : Tup) (f : Nat → Value) (W : World) : Prop := f 0 = .slice a n c ∧ f 3 = .pointer (some ⟨b3, 0, none⟩) ∧ Hid (∃ k, W = W0.drewN k) ∧ ∃ i : Nat, i ≤ n ∧ f 5 = .int .i64 (i : Nat) ∧ Hid (∀ j, j < i → L[j]? ≠ some t)
attribute [local go_sem] eql44 neq44
attribute [local go_sem ↓] execOp_eql44 execOp_neq44
set_option maxRecDepth 100000 in
theorem frame18m (f : Nat → Value) : frameN 18 f = #[f 0, f 1, f 2, f 3, f 4, f 5, f 6, f 7, f 8, f 9, f 10, f 11, f 12, f 13, f 14, f 15, f 16, f 17] := by kernel_rfl
set_option maxRecDepth 20000 in
set_option maxHeartbeats 4000000 in
theorem memberM_any (W : World) (a : Option Addr) (n c : Nat) (L : List Tup) (hw : Rw tpl 4 W a n L) (hn : n ≤ 10000000000) (t : Tup) : Calls Try.prog 47 #[.slice a n c, .agg (arr i64v t).toArray] W fun e W' => e = .returned (.bool (decide (t ∈ L))) ∧ W.Extends W' := by
  obtain ⟨res, hres⟩ : ∃ res, res = decide (t ∈ L) := ⟨_, rfl⟩
  rw [← hres]
  have HRES := hid_of hres
  have HW0 := hid_of hw
  clear hres hw
  go_enter Try.func47, Try.ntmps47
  go_upto_region 1 with fail
  refine wp_world (fun W0 => blk W0 W.heap.size = some (arr i64v t) ∧ W.Extends W0) ⟨?_, extends_alloc (ext_Ext (Ext.refl _)) _⟩ ?_
  · rw [blk_alloc, if_pos rfl]
  rintro W1 ⟨hb3, hx1⟩
  obtain ⟨b3, e3⟩ : ∃ b3, b3 = W.heap.size := ⟨_, rfl⟩
  rw [← e3] at hb3 ⊢
  have HX := hid_of hx1
  have hw1 := HW0.out.ext' hx1
  have HW := hid_of hw1
  have HKM := hid_of hb3
  clear e3 hx1 hb3 hw1
  go_wp2_with fail
  have HK0 : Hid (∃ k, W1 = W1.drewN k) := ⟨0, rfl⟩
  refine wp_loop_f 18 (meMI W1 a n c b3 L t) (fun f _ => n - (intOf (f 5)).toNat) rfl ⟨rfl, rfl, HK0, 0, by omega, rfl, fun j h => absurd h (Nat.not_lt_zero _)⟩ ?_
  clear HK0
  intro F W2 hrel
  obtain ⟨f0, f3, HK, i, hi, f5, HQ⟩ := hrel
  have H5 := hid_of f5
  rw [frame18m, f0, f3, f5]
  clear f0 f3 f5
  obtain ⟨k0, hV⟩ := HK.out
  have hb3 : blk W2 b3 = some (arr i64v t) := by rw [hV, blk_drewN]; exact HKM.out
  by_cases hin : i < n
  · have hin' : (i : Int) < (n : Int) := by omega
    obtain ⟨x, hx⟩ : ∃ x, L[i]? = some x := ⟨_, List.getElem?_eq_getElem (by rw [HW.out.1]; exact hin)⟩
    obtain ⟨bn, Cn, rfl, hCn, hcn, _, un⟩ := tup_at (HW.out.drewN k0) hx
    rw [← hV] at hCn
    have p0 : (0 : Int) ≤ (i : Int) := by omega
    have p2 : ((i : Int)).toNat = i := by omega
    have p5 : i * 4 < Cn.length := by omega
    have HK' : Hid (∃ k, W2.drew = W1.drewN k) := ⟨k0 + 1, by rw [hV]; rfl⟩
    have HXE : Hid (W.Extends W2.drew) := by show W.Extends W2.drew; rw [hV]; exact extends_drew (extends_drewN HX.out _)
    by_cases he : x = t
    · have hrs : res = true := by
        rw [HRES.out]
        subst he
        exact decide_eq_true (List.mem_of_getElem? hx)
      subst he
      have htt : decide (x = x) = true := by simp
      clear HQ hx HRES hV HK HK'
      subst hrs
      go_upto_region 4 with fail
      refine wp_region_held_drew (S := fun W' => blk W' b3 = some (arr i64v x) ∧ blk W' bn = some Cn) (by kernel_rfl) ⟨hb3, hCn⟩ (fun hHeld => ?_)
      refine wpAnyH_take (i := 0) (oi := ⟨_, _, _, _, _, _⟩) (v := ?_) rfl (by kernel_rfl) (by kernel_rfl) (by kernel_rfl) (fun _ _ _ h => h) (Or.inl ⟨by rfl, ?_⟩) (by assumption) ?_
      rotate_left 1
      · intro W' hSw
        obtain ⟨hS1, hS2⟩ := hSw
        go_simp
        try with_reducible rfl
      try simp only [Act.put, List.setIfInBounds_toArray, List.set_cons_zero, List.set_cons_succ]
      refine wpAnyH_take (i := 1) (oi := ⟨_, _, _, _, _, _⟩) (v := ?_) rfl (by kernel_rfl) (by kernel_rfl) (by kernel_rfl) (fun _ _ _ h => h) (Or.inl ⟨by rfl, ?_⟩) (by assumption) ?_
      rotate_left 1
      · intro W' hSw
        obtain ⟨hS1, hS2⟩ := hSw
        go_simp
        try with_reducible rfl
      try simp only [Act.put, List.setIfInBounds_toArray, List.set_cons_zero, List.set_cons_succ]
      refine wpAnyH_take (i := 2) (oi := ⟨_, _, _, _, _, _⟩) (v := ?_) rfl (by kernel_rfl) (by kernel_rfl) (by kernel_rfl) (fun _ _ _ h => h) (Or.inl ⟨by rfl, ?_⟩) (by assumption) ?_
      rotate_left 1
      · intro W' hSw
        obtain ⟨hS1, hS2⟩ := hSw
        go_simp
        try with_reducible rfl
      try simp only [Act.put, List.setIfInBounds_toArray, List.set_cons_zero, List.set_cons_succ]
      refine wpAnyH_take (i := 3) (oi := ⟨_, _, _, _, _, _⟩) (v := ?_) rfl (by kernel_rfl) (by kernel_rfl) (by kernel_rfl) (fun _ _ _ h => h) (Or.inl ⟨by rfl, ?_⟩) (by assumption) ?_
      rotate_left 1
      · intro W' hSw
        obtain ⟨hS1, hS2⟩ := hSw
        go_simp
        try with_reducible rfl
      try simp only [Act.put, List.setIfInBounds_toArray, List.set_cons_zero, List.set_cons_succ]
      refine wpAnyH_take (i := 4) (oi := ⟨_, _, _, _, _, _⟩) (v := ?_) rfl (by kernel_rfl) (by kernel_rfl) (by kernel_rfl) (fun _ _ _ h => h) (Or.inl ⟨by rfl, ?_⟩) (by assumption) ?_
      rotate_left 1
      · intro W' hSw
        obtain ⟨hS1, hS2⟩ := hSw
        go_simp
        try with_reducible rfl
      try simp only [Act.put, List.setIfInBounds_toArray, List.set_cons_zero, List.set_cons_succ]
      refine wpAnyH_take (i := 5) (oi := ⟨_, _, _, _, _, _⟩) (v := ?_) rfl (by kernel_rfl) (by kernel_rfl) (by kernel_rfl) (fun _ _ _ h => h) (Or.inl ⟨by rfl, ?_⟩) (by assumption) ?_
      rotate_left 1
      · intro W' hSw
        obtain ⟨hS1, hS2⟩ := hSw
        go_simp
        try with_reducible rfl
      try simp only [Act.put, List.setIfInBounds_toArray, List.set_cons_zero, List.set_cons_succ]
      refine wpAnyH_done (by kernel_rfl) ?_ _
      go_wp2_with fail
      go_ret
      exact ⟨rfl, HXE.out⟩
    · have HQ' : Hid (∀ j, j < i + 1 → L[j]? ≠ some t) := by
        intro j h1
        by_cases h3 : j = i
        · subst h3
          rw [hx]
          intro e; exact he (Option.some.inj e)
        · exact HQ.out j (by omega)
      have hde : decide (x = t) = false := decide_eq_false he
      clear HQ hx hV HK HXE
      go_upto_region 4 with fail
      refine wp_region_held_drew (S := fun W' => blk W' b3 = some (arr i64v t) ∧ blk W' bn = some Cn) (by kernel_rfl) ⟨hb3, hCn⟩ (fun hHeld => ?_)
      refine wpAnyH_take (i := 0) (oi := ⟨_, _, _, _, _, _⟩) (v := ?_) rfl (by kernel_rfl) (by kernel_rfl) (by kernel_rfl) (fun _ _ _ h => h) (Or.inl ⟨by rfl, ?_⟩) (by assumption) ?_
      rotate_left 1
      · intro W' hSw
        obtain ⟨hS1, hS2⟩ := hSw
        go_simp
        try with_reducible rfl
      try simp only [Act.put, List.setIfInBounds_toArray, List.set_cons_zero, List.set_cons_succ]
      refine wpAnyH_take (i := 1) (oi := ⟨_, _, _, _, _, _⟩) (v := ?_) rfl (by kernel_rfl) (by kernel_rfl) (by kernel_rfl) (fun _ _ _ h => h) (Or.inl ⟨by rfl, ?_⟩) (by assumption) ?_
      rotate_left 1
      · intro W' hSw
        obtain ⟨hS1, hS2⟩ := hSw
        go_simp
        try with_reducible rfl
      try simp only [Act.put, List.setIfInBounds_toArray, List.set_cons_zero, List.set_cons_succ]
      refine wpAnyH_take (i := 2) (oi := ⟨_, _, _, _, _, _⟩) (v := ?_) rfl (by kernel_rfl) (by kernel_rfl) (by kernel_rfl) (fun _ _ _ h => h) (Or.inl ⟨by rfl, ?_⟩) (by assumption) ?_
      rotate_left 1
      · intro W' hSw
        obtain ⟨hS1, hS2⟩ := hSw
        go_simp
        try with_reducible rfl
      try simp only [Act.put, List.setIfInBounds_toArray, List.set_cons_zero, List.set_cons_succ]
      refine wpAnyH_take (i := 3) (oi := ⟨_, _, _, _, _, _⟩) (v := ?_) rfl (by kernel_rfl) (by kernel_rfl) (by kernel_rfl) (fun _ _ _ h => h) (Or.inl ⟨by rfl, ?_⟩) (by assumption) ?_
      rotate_left 1
      · intro W' hSw
        obtain ⟨hS1, hS2⟩ := hSw
        go_simp
        try with_reducible rfl
      try simp only [Act.put, List.setIfInBounds_toArray, List.set_cons_zero, List.set_cons_succ]
      refine wpAnyH_take (i := 4) (oi := ⟨_, _, _, _, _, _⟩) (v := ?_) rfl (by kernel_rfl) (by kernel_rfl) (by kernel_rfl) (fun _ _ _ h => h) (Or.inl ⟨by rfl, ?_⟩) (by assumption) ?_
      rotate_left 1
      · intro W' hSw
        obtain ⟨hS1, hS2⟩ := hSw
        go_simp
        try with_reducible rfl
      try simp only [Act.put, List.setIfInBounds_toArray, List.set_cons_zero, List.set_cons_succ]
      refine wpAnyH_take (i := 5) (oi := ⟨_, _, _, _, _, _⟩) (v := ?_) rfl (by kernel_rfl) (by kernel_rfl) (by kernel_rfl) (fun _ _ _ h => h) (Or.inl ⟨by rfl, ?_⟩) (by assumption) ?_
      rotate_left 1
      · intro W' hSw
        obtain ⟨hS1, hS2⟩ := hSw
        go_simp
        try with_reducible rfl
      try simp only [Act.put, List.setIfInBounds_toArray, List.set_cons_zero, List.set_cons_succ]
      refine wpAnyH_done (by kernel_rfl) ?_ _
      go_wp2_with fail
      refine ⟨rfl, rfl, ⟨rfl, rfl, HK', i + 1, by omega, ?_, HQ'⟩, ?_⟩
      · show Value.int .i64 _ = _
        go_num
      · show n - (intOf (Value.int .i64 _)).toNat < n - (intOf (F 5)).toNat
        rw [H5.out]
        simp [intOf]; omega
  · obtain rfl : i = n := by omega
    have hin' : ¬ ((i : Int) < (i : Int)) := by omega
    have hrs : res = false := by
      rw [HRES.out]
      refine decide_eq_false (fun h => ?_)
      obtain ⟨j, hj⟩ := List.mem_iff_getElem?.1 h
      exact HQ.out j (by rw [← HW.out.1]; exact (List.getElem?_eq_some_iff.1 hj).1) hj
    have HXE : Hid (W.Extends W2) := by show W.Extends W2; rw [hV]; exact extends_drewN HX.out _
    clear HQ HRES hV HK
    subst hrs
    go_wp2_with fail
    go_ret
    exact ⟨rfl, HXE.out⟩
/-- instance -/
def vS (v : Vector Int 32) (n : Nat) : Int := v.toList.getD n 0
theorem nth_v (v : Vector Int 32) {n : Nat} (h : n < 32) : nth (arr i64v v) n = some (.int .i64 (vS v n)) := by
  rw [nth_arr_i64 v h]
  congr 2
  unfold vS
  rw [List.getD_eq_getElem?_getD, List.getElem?_eq_getElem (by simp; omega)]; simp
theorem sT_zero (a : Atom) (σ : Nat → Int) : sT a σ 0 = Vector.replicate 4 0 := by
  apply Vector.ext
  intro i hi
  simp [sT]
theorem sT_succ (a : Atom) (σ : Nat → Int) {c : Nat} (hc : c < 4) : (sT a σ c).set c (sV σ (tA a c)) hc = sT a σ (c + 1) := by
  apply Vector.ext
  intro i hi
  rw [Vector.getElem_set]
  simp only [sT, Vector.getElem_ofFn]
  by_cases h : c = i
  · subst h; rw [if_pos rfl, if_pos (by omega)]
  · rw [if_neg h]
    by_cases h2 : i < c
    · rw [if_pos h2, if_pos (by omega)]
    · rw [if_neg h2, if_neg (by omega)]
theorem sT_put (a : Atom) (σ : Nat → Int) {c : Nat} (hc : c < 4) {v : Int} (hv : v = sV σ (tA a c)) : splice (arr i64v (sT a σ c)) c [.int .i64 v] = arr i64v (sT a σ (c + 1)) := by
  rw [put_arr_i64 _ _ hc, hv, sT_succ a σ hc]
def inI (W : World) (bp b4 b5 b6 b7 ar : Nat) (a : Atom) (s : Vector Int 32) (f : Nat → Value) (V : World) : Prop := f 0 = .pointer (some ⟨bp, 0, none⟩) ∧ f 4 = .pointer (some ⟨b4, 0, none⟩) ∧ f 5 = .pointer (some ⟨b5, 0, none⟩) ∧ f 6 = .pointer (some ⟨b6, 0, none⟩) ∧ f 7 = .pointer (some ⟨b7, 0, none⟩) ∧ ∃ c : Nat, c ≤ ar ∧ f 8 = .int .i64 (c : Nat) ∧ Hid (W.Extends V ∧ blk V b4 = some a.enc ∧ blk V b5 = some (arr i64v s) ∧ blk V b6 = some (arr i64v (sT a (vS s) 0)) ∧ free V b6 = true ∧ blk V b7 = some (arr i64v (sT a (vS s) c)) ∧ free V b7 = true)
set_option maxRecDepth 100000 in
theorem frame44i (f : Nat → Value) : frameN 44 f = #[f 0, f 1, f 2, f 3, f 4, f 5, f 6, f 7, f 8, f 9, f 10, f 11, f 12, f 13, f 14, f 15, f 16, f 17, f 18, f 19, f 20, f 21, f 22, f 23, f 24, f 25, f 26, f 27, f 28, f 29, f 30, f 31, f 32, f 33, f 34, f 35, f 36, f 37, f 38, f 39, f 40, f 41, f 42, f 43] := by kernel_rfl
set_option maxRecDepth 20000 in
set_option maxHeartbeats 2000000 in
theorem instance_any (W : World) (bp : Nat) (p : Pg) (hpg : PgX W bp p) (hok : PgOk p) (a : Atom) (s : Vector Int 32) (hf : AFit p.P a) : Calls Try.prog 78 #[.pointer (some ⟨bp, 0, none⟩), .agg a.enc.toArray, .agg (arr i64v s).toArray] W fun e W' => e = .returned (.agg (arr i64v (sT a (vS s) (arA p.P a))).toArray) ∧ W.Extends W' := by
  have HPG := hid_of hpg
  have hN := hok.nP
  obtain ⟨ha4, hfit⟩ := afit_fit hf
  have HFIT := hid_of hfit
  have HAF := hid_of hf
  obtain ⟨ar, har⟩ : ∃ ar, ar = arA p.P a := ⟨_, rfl⟩
  rw [← har] at ha4 ⊢
  have HAR := hid_of har
  clear hfit hpg hf har hok
  go_enter Try.func78, Try.ntmps78
  go_upto_region 2 with fail
  refine wp_world (fun V => W.Extends V ∧ blk V W.heap.size = some a.enc ∧ blk V (W.heap.size + 1) = some (arr i64v s) ∧ blk V (W.heap.size + 1 + 1) = some (arr i64v (sT a (vS s) 0)) ∧ free V (W.heap.size + 1 + 1) = true ∧ blk V (W.heap.size + 1 + 1 + 1) = some (arr i64v (sT a (vS s) 0)) ∧ free V (W.heap.size + 1 + 1 + 1) = true) ?_ ?_
  · rw [sT_zero]
    refine ⟨extends_alloc (extends_alloc (extends_alloc (extends_alloc (ext_Ext (Ext.refl _)) _) _) _) _, ?_, ?_, ?_, ?_, ?_, ?_⟩
    all_goals first
      | (repeat rw [blk_alloc, if_neg (by simp only [World.size_alloc]; omega)]
         rw [blk_alloc, if_pos (by simp only [World.size_alloc])]
         done)
      | (unfold free
         repeat rw [heap_alloc, if_neg (by simp only [World.size_alloc]; omega)]
         rw [heap_alloc, if_pos (by simp only [World.size_alloc])]
         rfl)
  intro V1 hV1
  try simp only [World.size_alloc]
  obtain ⟨b4, e_b4⟩ : ∃ b, b = W.heap.size := ⟨_, rfl⟩
  obtain ⟨b5, e_b5⟩ : ∃ b, b = W.heap.size + 1 := ⟨_, rfl⟩
  obtain ⟨b6, e_b6⟩ : ∃ b, b = W.heap.size + 1 + 1 := ⟨_, rfl⟩
  obtain ⟨b7, e_b7⟩ : ∃ b, b = W.heap.size + 1 + 1 + 1 := ⟨_, rfl⟩
  rw [← e_b7] at hV1 ⊢
  rw [← e_b6] at hV1 ⊢
  rw [← e_b5] at hV1 ⊢
  rw [← e_b4] at hV1 ⊢
  have hn_b4 : W.heap.size ≤ b4 := by omega
  have n_b4_b5 : ¬ b4 = b5 := by omega
  have n_b5_b4 : ¬ b5 = b4 := by omega
  have n_b4_b6 : ¬ b4 = b6 := by omega
  have n_b6_b4 : ¬ b6 = b4 := by omega
  have n_b4_b7 : ¬ b4 = b7 := by omega
  have n_b7_b4 : ¬ b7 = b4 := by omega
  have hn_b5 : W.heap.size ≤ b5 := by omega
  have n_b5_b6 : ¬ b5 = b6 := by omega
  have n_b6_b5 : ¬ b6 = b5 := by omega
  have n_b5_b7 : ¬ b5 = b7 := by omega
  have n_b7_b5 : ¬ b7 = b5 := by omega
  have hn_b6 : W.heap.size ≤ b6 := by omega
  have n_b6_b7 : ¬ b6 = b7 := by omega
  have n_b7_b6 : ¬ b7 = b6 := by omega
  have hn_b7 : W.heap.size ≤ b7 := by omega
  clear e_b4 e_b5 e_b6 e_b7
  have H1 := hid_of hV1
  clear hV1
  go_wp2_with fail
  refine wp_loop_f 44 (inI W bp b4 b5 b6 b7 ar a s) (fun f _ => ar - (intOf (f 8)).toNat) rfl ⟨rfl, rfl, rfl, rfl, rfl, 0, by omega, rfl, H1⟩ ?_
  clear H1
  intro F V hrel
  obtain ⟨f0, f4, f5, f6, f7, c, hc, f8, HV⟩ := hrel
  have H8 := hid_of f8
  rw [frame44i, f0, f4, f5, f6, f7, f8]
  clear f0 f4 f5 f6 f7 f8
  obtain ⟨hx, hb4, hb5, hb6, hf6, hb7, hf7⟩ := HV.out
  obtain ⟨cP, Cb, CP, bP, q, e1, e2, e3, e4, e5, e6, e7, e8, -, -⟩ := pgb_ar (HPG.out.ext hx) HAF.out
  have zCb0 : 0 < Cb.length := by omega
  rw [← HAR.out] at e8
  have q0 : (0 : Int) ≤ (q : Int) := by omega
  have q1 : (q : Int) < (p.P.length : Int) := by omega
  have q2 : ((q : Int)).toNat = q := by omega
  have q3 : q * 3 < CP.length := by omega
  have ha0 := Atom.length_enc a
  by_cases hin : c < ar
  · have hin' : (c : Int) < (ar : Int) := by omega
    have h4 : c < 4 := by omega
    have p0 : (0 : Int) ≤ (c : Int) := by omega
    have p1 : (c : Int) < 4 := by omega
    have p2 : ((c : Int)).toNat = c := by omega
    obtain ⟨r0, r1, r2⟩ := HFIT.out c (by rw [← HAR.out]; exact hin)
    have hv := ta_v a h4
    have hn := ta_n a h4
    have hput := fun v hv => sT_put a (vS s) h4 (v := v) hv
    obtain ⟨tm, htm⟩ : ∃ tm, tm = tA a c := ⟨_, rfl⟩
    rw [← htm] at hv hn r0 r1 r2 hput
    obtain ⟨vb, hvb⟩ : ∃ vb, vb = tm.var := ⟨_, rfl⟩
    obtain ⟨vn, hvn⟩ : ∃ vn, vn = tm.n := ⟨_, rfl⟩
    rw [← hvb] at hv r1 r2
    rw [← hvn] at hn r0 r1 r2
    have hval : sV (vS s) tm = if vb then vS s vn.toNat else vn := by unfold sV; rw [← hvb, ← hvn]
    rw [hval] at hput
    obtain ⟨T1, hT1⟩ : ∃ T1, T1 = sT a (vS s) (c + 1) := ⟨_, rfl⟩
    obtain ⟨T0, hT0⟩ : ∃ T0, T0 = sT a (vS s) c := ⟨_, rfl⟩
    rw [← hT1, ← hT0] at hput
    rw [← hT0] at hb7
    have HV' : Hid (W.Extends (put V b7 (arr i64v T1)) ∧ blk (put V b7 (arr i64v T1)) b4 = some a.enc ∧ blk (put V b7 (arr i64v T1)) b5 = some (arr i64v s) ∧ blk (put V b7 (arr i64v T1)) b6 = some (arr i64v (sT a (vS s) 0)) ∧ free (put V b7 (arr i64v T1)) b6 = true ∧ blk (put V b7 (arr i64v T1)) b7 = some (arr i64v (sT a (vS s) (c + 1))) ∧ free (put V b7 (arr i64v T1)) b7 = true) := by
      refine ⟨extends_put hx hn_b7 _, by rw [blk_put, if_neg n_b4_b7]; exact hb4, by rw [blk_put, if_neg n_b5_b7]; exact hb5, by rw [blk_put, if_neg n_b6_b7]; exact hb6, by rw [free_put]; exact hf6, ?_, by rw [free_put]; exact hf7⟩
      rw [blk_put, if_pos rfl, hb7, hT1]; rfl
    cases vb
    · have hp := hput vn (by simp)
      clear hput hval HV htm hvb hvn hT0 hT1 hx HFIT hb6 hf6
      go_upto_region 3 with fail
      refine wp_region_held_drew (S := fun W' => blk W' bp = some Cb ∧ blk W' b4 = some a.enc ∧ blk W' bP = some CP) (by kernel_rfl) ⟨e1, hb4, e6⟩ (fun hHeld => ?_)
      refine wpAnyH_take (i := 0) (oi := ⟨_, _, _, _, _, _⟩) (v := ?_) rfl (by kernel_rfl) (by kernel_rfl) (by kernel_rfl) (fun _ _ _ h => h) (Or.inl ⟨by rfl, ?_⟩) (by assumption) ?_
      rotate_left 1
      · intro W' hSw
        obtain ⟨hS1, hS2, hS3⟩ := hSw
        go_simp
        try with_reducible rfl
      try simp only [Act.put, List.setIfInBounds_toArray, List.set_cons_zero, List.set_cons_succ]
      refine wpAnyH_take (i := 1) (oi := ⟨_, _, _, _, _, _⟩) (v := ?_) rfl (by kernel_rfl) (by kernel_rfl) (by kernel_rfl) (fun _ _ _ h => h) (Or.inl ⟨by rfl, ?_⟩) (by assumption) ?_
      rotate_left 1
      · intro W' hSw
        obtain ⟨hS1, hS2, hS3⟩ := hSw
        go_simp
        try with_reducible rfl
      try simp only [Act.put, List.setIfInBounds_toArray, List.set_cons_zero, List.set_cons_succ]
      refine wpAnyH_take (i := 2) (oi := ⟨_, _, _, _, _, _⟩) (v := ?_) rfl (by kernel_rfl) (by kernel_rfl) (by kernel_rfl) (fun _ _ _ h => h) (Or.inl ⟨by rfl, ?_⟩) (by assumption) ?_
      rotate_left 1
      · intro W' hSw
        obtain ⟨hS1, hS2, hS3⟩ := hSw
        go_simp
        try with_reducible rfl
      try simp only [Act.put, List.setIfInBounds_toArray, List.set_cons_zero, List.set_cons_succ]
      refine wpAnyH_take (i := 3) (oi := ⟨_, _, _, _, _, _⟩) (v := ?_) rfl (by kernel_rfl) (by kernel_rfl) (by kernel_rfl) (fun _ _ _ h => h) (Or.inl ⟨by rfl, ?_⟩) (by assumption) ?_
      rotate_left 1
      · intro W' hSw
        obtain ⟨hS1, hS2, hS3⟩ := hSw
        go_simp
        try with_reducible rfl
      try simp only [Act.put, List.setIfInBounds_toArray, List.set_cons_zero, List.set_cons_succ]
      refine wpAnyH_take (i := 4) (oi := ⟨_, _, _, _, _, _⟩) (v := ?_) rfl (by kernel_rfl) (by kernel_rfl) (by kernel_rfl) (fun _ _ _ h => h) (Or.inl ⟨by rfl, ?_⟩) (by assumption) ?_
      rotate_left 1
      · intro W' hSw
        obtain ⟨hS1, hS2, hS3⟩ := hSw
        go_simp
        try with_reducible rfl
      try simp only [Act.put, List.setIfInBounds_toArray, List.set_cons_zero, List.set_cons_succ]
      refine wpAnyH_take (i := 5) (oi := ⟨_, _, _, _, _, _⟩) (v := ?_) rfl (by kernel_rfl) (by kernel_rfl) (by kernel_rfl) (fun _ _ _ h => h) (Or.inl ⟨by rfl, ?_⟩) (by assumption) ?_
      rotate_left 1
      · intro W' hSw
        obtain ⟨hS1, hS2, hS3⟩ := hSw
        go_simp
        try with_reducible rfl
      try simp only [Act.put, List.setIfInBounds_toArray, List.set_cons_zero, List.set_cons_succ]
      refine wpAnyH_take (i := 6) (oi := ⟨_, _, _, _, _, _⟩) (v := ?_) rfl (by kernel_rfl) (by kernel_rfl) (by kernel_rfl) (fun _ _ _ h => h) (Or.inl ⟨by rfl, ?_⟩) (by assumption) ?_
      rotate_left 1
      · intro W' hSw
        obtain ⟨hS1, hS2, hS3⟩ := hSw
        go_simp
        try with_reducible rfl
      try simp only [Act.put, List.setIfInBounds_toArray, List.set_cons_zero, List.set_cons_succ]
      refine wpAnyH_take (i := 7) (oi := ⟨_, _, _, _, _, _⟩) (v := ?_) rfl (by kernel_rfl) (by kernel_rfl) (by kernel_rfl) (fun _ _ _ h => h) (Or.inl ⟨by rfl, ?_⟩) (by assumption) ?_
      rotate_left 1
      · intro W' hSw
        obtain ⟨hS1, hS2, hS3⟩ := hSw
        go_simp
        try with_reducible rfl
      try simp only [Act.put, List.setIfInBounds_toArray, List.set_cons_zero, List.set_cons_succ]
      refine wpAnyH_take (i := 8) (oi := ⟨_, _, _, _, _, _⟩) (v := ?_) rfl (by kernel_rfl) (by kernel_rfl) (by kernel_rfl) (fun _ _ _ h => h) (Or.inl ⟨by rfl, ?_⟩) (by assumption) ?_
      rotate_left 1
      · intro W' hSw
        obtain ⟨hS1, hS2, hS3⟩ := hSw
        go_simp
        try with_reducible rfl
      try simp only [Act.put, List.setIfInBounds_toArray, List.set_cons_zero, List.set_cons_succ]
      refine wpAnyH_take (i := 9) (oi := ⟨_, _, _, _, _, _⟩) (v := ?_) rfl (by kernel_rfl) (by kernel_rfl) (by kernel_rfl) (fun _ _ _ h => h) (Or.inl ⟨by rfl, ?_⟩) (by assumption) ?_
      rotate_left 1
      · intro W' hSw
        obtain ⟨hS1, hS2, hS3⟩ := hSw
        go_simp
        try with_reducible rfl
      try simp only [Act.put, List.setIfInBounds_toArray, List.set_cons_zero, List.set_cons_succ]
      refine wpAnyH_take (i := 10) (oi := ⟨_, _, _, _, _, _⟩) (v := ?_) rfl (by kernel_rfl) (by kernel_rfl) (by kernel_rfl) (fun _ _ _ h => h) (Or.inl ⟨by rfl, ?_⟩) (by assumption) ?_
      rotate_left 1
      · intro W' hSw
        obtain ⟨hS1, hS2, hS3⟩ := hSw
        go_simp
        try with_reducible rfl
      try simp only [Act.put, List.setIfInBounds_toArray, List.set_cons_zero, List.set_cons_succ]
      refine wpAnyH_done (by kernel_rfl) ?_ _
      go_wp2_with fail
      refine ⟨rfl, rfl, ⟨rfl, rfl, rfl, rfl, rfl, c + 1, by omega, ?_, ?_⟩, ?_⟩
      · show Value.int .i64 _ = _
        go_num
      · exact ⟨extends_drew HV'.out.1, HV'.out.2⟩
      · show ar - (intOf (Value.int .i64 _)).toNat < ar - (intOf (F 8)).toNat
        rw [H8.out]
        simp [intOf]; omega
    · have r1' := r1 rfl
      obtain ⟨vi, rfl⟩ : ∃ vi : Nat, vn = (vi : Int) := ⟨vn.toNat, by omega⟩
      have h32 : vi < 32 := by omega
      have hev := nth_v s h32
      have hp := hput (vS s vi) (by simp)
      clear hput hval HV htm hvb hvn hT0 hT1 hx HFIT hb6 hf6
      go_upto_region 3 with fail
      refine wp_region_held_drew (S := fun W' => blk W' bp = some Cb ∧ blk W' b4 = some a.enc ∧ blk W' bP = some CP) (by kernel_rfl) ⟨e1, hb4, e6⟩ (fun hHeld => ?_)
      refine wpAnyH_take (i := 0) (oi := ⟨_, _, _, _, _, _⟩) (v := ?_) rfl (by kernel_rfl) (by kernel_rfl) (by kernel_rfl) (fun _ _ _ h => h) (Or.inl ⟨by rfl, ?_⟩) (by assumption) ?_
      rotate_left 1
      · intro W' hSw
        obtain ⟨hS1, hS2, hS3⟩ := hSw
        go_simp
        try with_reducible rfl
      try simp only [Act.put, List.setIfInBounds_toArray, List.set_cons_zero, List.set_cons_succ]
      refine wpAnyH_take (i := 1) (oi := ⟨_, _, _, _, _, _⟩) (v := ?_) rfl (by kernel_rfl) (by kernel_rfl) (by kernel_rfl) (fun _ _ _ h => h) (Or.inl ⟨by rfl, ?_⟩) (by assumption) ?_
      rotate_left 1
      · intro W' hSw
        obtain ⟨hS1, hS2, hS3⟩ := hSw
        go_simp
        try with_reducible rfl
      try simp only [Act.put, List.setIfInBounds_toArray, List.set_cons_zero, List.set_cons_succ]
      refine wpAnyH_take (i := 2) (oi := ⟨_, _, _, _, _, _⟩) (v := ?_) rfl (by kernel_rfl) (by kernel_rfl) (by kernel_rfl) (fun _ _ _ h => h) (Or.inl ⟨by rfl, ?_⟩) (by assumption) ?_
      rotate_left 1
      · intro W' hSw
        obtain ⟨hS1, hS2, hS3⟩ := hSw
        go_simp
        try with_reducible rfl
      try simp only [Act.put, List.setIfInBounds_toArray, List.set_cons_zero, List.set_cons_succ]
      refine wpAnyH_take (i := 3) (oi := ⟨_, _, _, _, _, _⟩) (v := ?_) rfl (by kernel_rfl) (by kernel_rfl) (by kernel_rfl) (fun _ _ _ h => h) (Or.inl ⟨by rfl, ?_⟩) (by assumption) ?_
      rotate_left 1
      · intro W' hSw
        obtain ⟨hS1, hS2, hS3⟩ := hSw
        go_simp
        try with_reducible rfl
      try simp only [Act.put, List.setIfInBounds_toArray, List.set_cons_zero, List.set_cons_succ]
      refine wpAnyH_take (i := 4) (oi := ⟨_, _, _, _, _, _⟩) (v := ?_) rfl (by kernel_rfl) (by kernel_rfl) (by kernel_rfl) (fun _ _ _ h => h) (Or.inl ⟨by rfl, ?_⟩) (by assumption) ?_
      rotate_left 1
      · intro W' hSw
        obtain ⟨hS1, hS2, hS3⟩ := hSw
        go_simp
        try with_reducible rfl
      try simp only [Act.put, List.setIfInBounds_toArray, List.set_cons_zero, List.set_cons_succ]
      refine wpAnyH_take (i := 5) (oi := ⟨_, _, _, _, _, _⟩) (v := ?_) rfl (by kernel_rfl) (by kernel_rfl) (by kernel_rfl) (fun _ _ _ h => h) (Or.inl ⟨by rfl, ?_⟩) (by assumption) ?_
      rotate_left 1
      · intro W' hSw
        obtain ⟨hS1, hS2, hS3⟩ := hSw
        go_simp
        try with_reducible rfl
      try simp only [Act.put, List.setIfInBounds_toArray, List.set_cons_zero, List.set_cons_succ]
      refine wpAnyH_take (i := 6) (oi := ⟨_, _, _, _, _, _⟩) (v := ?_) rfl (by kernel_rfl) (by kernel_rfl) (by kernel_rfl) (fun _ _ _ h => h) (Or.inl ⟨by rfl, ?_⟩) (by assumption) ?_
      rotate_left 1
      · intro W' hSw
        obtain ⟨hS1, hS2, hS3⟩ := hSw
        go_simp
        try with_reducible rfl
      try simp only [Act.put, List.setIfInBounds_toArray, List.set_cons_zero, List.set_cons_succ]
      refine wpAnyH_take (i := 7) (oi := ⟨_, _, _, _, _, _⟩) (v := ?_) rfl (by kernel_rfl) (by kernel_rfl) (by kernel_rfl) (fun _ _ _ h => h) (Or.inl ⟨by rfl, ?_⟩) (by assumption) ?_
      rotate_left 1
      · intro W' hSw
        obtain ⟨hS1, hS2, hS3⟩ := hSw
        go_simp
        try with_reducible rfl
      try simp only [Act.put, List.setIfInBounds_toArray, List.set_cons_zero, List.set_cons_succ]
      refine wpAnyH_take (i := 8) (oi := ⟨_, _, _, _, _, _⟩) (v := ?_) rfl (by kernel_rfl) (by kernel_rfl) (by kernel_rfl) (fun _ _ _ h => h) (Or.inl ⟨by rfl, ?_⟩) (by assumption) ?_
      rotate_left 1
      · intro W' hSw
        obtain ⟨hS1, hS2, hS3⟩ := hSw
        go_simp
        try with_reducible rfl
      try simp only [Act.put, List.setIfInBounds_toArray, List.set_cons_zero, List.set_cons_succ]
      refine wpAnyH_take (i := 9) (oi := ⟨_, _, _, _, _, _⟩) (v := ?_) rfl (by kernel_rfl) (by kernel_rfl) (by kernel_rfl) (fun _ _ _ h => h) (Or.inl ⟨by rfl, ?_⟩) (by assumption) ?_
      rotate_left 1
      · intro W' hSw
        obtain ⟨hS1, hS2, hS3⟩ := hSw
        go_simp
        try with_reducible rfl
      try simp only [Act.put, List.setIfInBounds_toArray, List.set_cons_zero, List.set_cons_succ]
      refine wpAnyH_take (i := 10) (oi := ⟨_, _, _, _, _, _⟩) (v := ?_) rfl (by kernel_rfl) (by kernel_rfl) (by kernel_rfl) (fun _ _ _ h => h) (Or.inl ⟨by rfl, ?_⟩) (by assumption) ?_
      rotate_left 1
      · intro W' hSw
        obtain ⟨hS1, hS2, hS3⟩ := hSw
        go_simp
        try with_reducible rfl
      try simp only [Act.put, List.setIfInBounds_toArray, List.set_cons_zero, List.set_cons_succ]
      refine wpAnyH_done (by kernel_rfl) ?_ _
      go_wp2_with fail
      refine ⟨rfl, rfl, ⟨rfl, rfl, rfl, rfl, rfl, c + 1, by omega, ?_, ?_⟩, ?_⟩
      · show Value.int .i64 _ = _
        go_num
      · exact ⟨extends_drew HV'.out.1, HV'.out.2⟩
      · show ar - (intOf (Value.int .i64 _)).toNat < ar - (intOf (F 8)).toNat
        rw [H8.out]
        simp [intOf]; omega
  · obtain rfl : c = ar := by omega
    have hin' : ¬ ((c : Int) < (c : Int)) := by omega
    have HX : Hid (W.Extends (put V.drew b6 (arr i64v (sT a (vS s) c)))) := extends_put (extends_drew hx) hn_b6 _
    have HB : Hid (blk (put V.drew b6 (arr i64v (sT a (vS s) c))) b6 = some (arr i64v (sT a (vS s) c))) := by
      show blk _ _ = _
      rw [blk_put, if_pos rfl, blk_drew, hb6]; rfl
    obtain ⟨T, hT⟩ : ∃ T, T = sT a (vS s) c := ⟨_, rfl⟩
    obtain ⟨T0, hT0⟩ : ∃ T0, T0 = sT a (vS s) 0 := ⟨_, rfl⟩
    have HT := hid_of hT
    rw [← hT] at HX HB hb7
    rw [← hT0] at hb6
    clear HV hT hT0 hx HFIT
    go_upto_region 3 with fail
    refine wp_region_held_drew (S := fun W' => blk W' bp = some Cb ∧ blk W' b4 = some a.enc ∧ blk W' bP = some CP) (by kernel_rfl) ⟨e1, hb4, e6⟩ (fun hHeld => ?_)
    refine wpAnyH_take (i := 0) (oi := ⟨_, _, _, _, _, _⟩) (v := ?_) rfl (by kernel_rfl) (by kernel_rfl) (by kernel_rfl) (fun _ _ _ h => h) (Or.inl ⟨by rfl, ?_⟩) (by assumption) ?_
    rotate_left 1
    · intro W' hSw
      obtain ⟨hS1, hS2, hS3⟩ := hSw
      go_simp
      try with_reducible rfl
    try simp only [Act.put, List.setIfInBounds_toArray, List.set_cons_zero, List.set_cons_succ]
    refine wpAnyH_take (i := 1) (oi := ⟨_, _, _, _, _, _⟩) (v := ?_) rfl (by kernel_rfl) (by kernel_rfl) (by kernel_rfl) (fun _ _ _ h => h) (Or.inl ⟨by rfl, ?_⟩) (by assumption) ?_
    rotate_left 1
    · intro W' hSw
      obtain ⟨hS1, hS2, hS3⟩ := hSw
      go_simp
      try with_reducible rfl
    try simp only [Act.put, List.setIfInBounds_toArray, List.set_cons_zero, List.set_cons_succ]
    refine wpAnyH_take (i := 2) (oi := ⟨_, _, _, _, _, _⟩) (v := ?_) rfl (by kernel_rfl) (by kernel_rfl) (by kernel_rfl) (fun _ _ _ h => h) (Or.inl ⟨by rfl, ?_⟩) (by assumption) ?_
    rotate_left 1
    · intro W' hSw
      obtain ⟨hS1, hS2, hS3⟩ := hSw
      go_simp
      try with_reducible rfl
    try simp only [Act.put, List.setIfInBounds_toArray, List.set_cons_zero, List.set_cons_succ]
    refine wpAnyH_take (i := 3) (oi := ⟨_, _, _, _, _, _⟩) (v := ?_) rfl (by kernel_rfl) (by kernel_rfl) (by kernel_rfl) (fun _ _ _ h => h) (Or.inl ⟨by rfl, ?_⟩) (by assumption) ?_
    rotate_left 1
    · intro W' hSw
      obtain ⟨hS1, hS2, hS3⟩ := hSw
      go_simp
      try with_reducible rfl
    try simp only [Act.put, List.setIfInBounds_toArray, List.set_cons_zero, List.set_cons_succ]
    refine wpAnyH_take (i := 4) (oi := ⟨_, _, _, _, _, _⟩) (v := ?_) rfl (by kernel_rfl) (by kernel_rfl) (by kernel_rfl) (fun _ _ _ h => h) (Or.inl ⟨by rfl, ?_⟩) (by assumption) ?_
    rotate_left 1
    · intro W' hSw
      obtain ⟨hS1, hS2, hS3⟩ := hSw
      go_simp
      try with_reducible rfl
    try simp only [Act.put, List.setIfInBounds_toArray, List.set_cons_zero, List.set_cons_succ]
    refine wpAnyH_take (i := 5) (oi := ⟨_, _, _, _, _, _⟩) (v := ?_) rfl (by kernel_rfl) (by kernel_rfl) (by kernel_rfl) (fun _ _ _ h => h) (Or.inl ⟨by rfl, ?_⟩) (by assumption) ?_
    rotate_left 1
    · intro W' hSw
      obtain ⟨hS1, hS2, hS3⟩ := hSw
      go_simp
      try with_reducible rfl
    try simp only [Act.put, List.setIfInBounds_toArray, List.set_cons_zero, List.set_cons_succ]
    refine wpAnyH_take (i := 6) (oi := ⟨_, _, _, _, _, _⟩) (v := ?_) rfl (by kernel_rfl) (by kernel_rfl) (by kernel_rfl) (fun _ _ _ h => h) (Or.inl ⟨by rfl, ?_⟩) (by assumption) ?_
    rotate_left 1
    · intro W' hSw
      obtain ⟨hS1, hS2, hS3⟩ := hSw
      go_simp
      try with_reducible rfl
    try simp only [Act.put, List.setIfInBounds_toArray, List.set_cons_zero, List.set_cons_succ]
    refine wpAnyH_take (i := 7) (oi := ⟨_, _, _, _, _, _⟩) (v := ?_) rfl (by kernel_rfl) (by kernel_rfl) (by kernel_rfl) (fun _ _ _ h => h) (Or.inl ⟨by rfl, ?_⟩) (by assumption) ?_
    rotate_left 1
    · intro W' hSw
      obtain ⟨hS1, hS2, hS3⟩ := hSw
      go_simp
      try with_reducible rfl
    try simp only [Act.put, List.setIfInBounds_toArray, List.set_cons_zero, List.set_cons_succ]
    refine wpAnyH_take (i := 8) (oi := ⟨_, _, _, _, _, _⟩) (v := ?_) rfl (by kernel_rfl) (by kernel_rfl) (by kernel_rfl) (fun _ _ _ h => h) (Or.inl ⟨by rfl, ?_⟩) (by assumption) ?_
    rotate_left 1
    · intro W' hSw
      obtain ⟨hS1, hS2, hS3⟩ := hSw
      go_simp
      try with_reducible rfl
    try simp only [Act.put, List.setIfInBounds_toArray, List.set_cons_zero, List.set_cons_succ]
    refine wpAnyH_take (i := 9) (oi := ⟨_, _, _, _, _, _⟩) (v := ?_) rfl (by kernel_rfl) (by kernel_rfl) (by kernel_rfl) (fun _ _ _ h => h) (Or.inl ⟨by rfl, ?_⟩) (by assumption) ?_
    rotate_left 1
    · intro W' hSw
      obtain ⟨hS1, hS2, hS3⟩ := hSw
      go_simp
      try with_reducible rfl
    try simp only [Act.put, List.setIfInBounds_toArray, List.set_cons_zero, List.set_cons_succ]
    refine wpAnyH_take (i := 10) (oi := ⟨_, _, _, _, _, _⟩) (v := ?_) rfl (by kernel_rfl) (by kernel_rfl) (by kernel_rfl) (fun _ _ _ h => h) (Or.inl ⟨by rfl, ?_⟩) (by assumption) ?_
    rotate_left 1
    · intro W' hSw
      obtain ⟨hS1, hS2, hS3⟩ := hSw
      go_simp
      try with_reducible rfl
    try simp only [Act.put, List.setIfInBounds_toArray, List.set_cons_zero, List.set_cons_succ]
    refine wpAnyH_done (by kernel_rfl) ?_ _
    go_wp2_with fail
    try go_ret2
    refine ret_cell (C := arr i64v T) rfl rfl HB.out (by kernel_rfl) (by rw [length_arr]; kernel_rfl) rfl ?_
    exact ⟨by rw [HT.out], HX.out⟩
end Go.Proofs.Qxb6500788a
