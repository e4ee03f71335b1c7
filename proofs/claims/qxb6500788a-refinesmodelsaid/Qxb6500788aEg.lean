import Derived.Test.Qxb6500788aEf
import Derived.StillTailTactics
import Derived.Deep.QuietTactic
import Derived.BigQuiet
import Derived.Deep.RegionHeld
import Derived.Deep.CutRange
import Derived.Laws.ResultCell
import Derived.Laws.Rows
import Derived.DeepKeys
import Derived.DataBytes
import Derived.Laws.StructEq
import Derived.Laws.AppendOwn
import Derived.Laws.MakeOwn
set_option linter.unusedSimpArgs false
set_option linter.unusedVariables false
namespace Go.Proofs.Qxb6500788a
open Go.RowKit Go.Blk
attribute [local go_sem ↓] execOp_load execOp_store execOp_alloc
attribute [local go_sem] Try.ld24 Try.st24 Try.ld25 Try.st25 Try.ld3 Try.st3 Try.ld30 Try.st30 Try.ld36 Try.st36 Try.ld4 Try.st4 Try.ld41 Try.st41 Try.ld50 Try.st50 Try.ld40 Try.st40 Try.ld42 Try.st42 Try.ld89 Try.st89 Try.ld91 Try.st91 Try.ld56 Try.st56 Try.ld97 Try.st97 Try.ld98 Try.st98 Try.ld101 Try.st101 Try.ld104 Try.st104 Try.ld57 Try.st57 Try.ld130 Try.st130 Try.ld2 Try.st2 Try.ld5 Try.st5 Try.ld9 Try.st9 Try.ld12 Try.st12 Try.ld21 Try.st21 Try.ld22 Try.st22 Try.ld29 Try.st29 Try.ld33 Try.st33 Try.ld59 Try.st59 Try.ld62 Try.st62 Try.ld69 Try.st69 Try.ld94 Try.st94 Try.ld96 Try.st96 Try.ld129 Try.st129 Try.ld158 Try.st158 Try.ld162 Try.st162 Try.ld47 Try.st47 Try.ld44 Try.st44 Try.ld137 Try.st137 Try.ld145 Try.st145 Try.ld43 Try.st43 Try.ld27 Try.st27 Try.ld38 Try.st38 Try.ld46 Try.st46 Try.ld49 Try.st49 Try.ld52 Try.st52 Try.ld54 Try.st54 Try.ld61 Try.st61 Try.ld80 Try.st80 Try.ld87 Try.st87 Try.ld93 Try.st93 Try.ld100 Try.st100 Try.ld103 Try.st103 Try.ld106 Try.st106 Try.ld109 Try.st109 Try.ld132 Try.st132 Try.ld147 Try.st147 Try.al47 Try.al44 Try.al137 Try.al145 Try.al43 Try.al27 Try.al38 Try.al46 Try.al49 Try.al52 Try.al54 Try.al61 Try.al80 Try.al87 Try.al93 Try.al100 Try.al103 Try.al106 Try.al109 Try.al132 Try.al147
attribute [local go_sem] GProgram.length_enc GProgram.ok_enc GProgram.all_get GProgram.all_set GProgram.preds_get GProgram.preds_set GProgram.rules_get GProgram.rules_set GProgram.strata_get GProgram.strata_set Answer.length_enc Answer.ok_enc Answer.all_get Answer.all_set Answer.code_get Answer.code_set Answer.n_get Answer.n_set Answer.rows_get Answer.rows_set Term.length_enc Term.ok_enc Term.all_get Term.all_set Term.var_get Term.var_set Term.n_get Term.n_set Atom.length_enc Atom.ok_enc Atom.all_get Atom.all_set Atom.pred_get Atom.pred_set Atom.args_get Atom.args_set GRule.length_enc GRule.ok_enc GRule.all_get GRule.all_set GRule.head_get GRule.head_set GRule.body_get GRule.body_set GRule.head_pred_get GRule.head_pred_set GRule.head_args_get GRule.head_args_set GOp.length_enc GOp.ok_enc GOp.all_get GOp.all_set GOp.kind_get GOp.kind_set GOp.pred_get GOp.pred_set GOp.t_get GOp.t_set GOp.n_get GOp.n_set GOp.base_get GOp.base_set GOp.rule_get GOp.rule_set GOp.rule_head_get GOp.rule_head_set GOp.rule_body_get GOp.rule_body_set GOp.rule_head_pred_get GOp.rule_head_pred_set GOp.rule_head_args_get GOp.rule_head_args_set PredInfo.length_enc PredInfo.ok_enc PredInfo.all_get PredInfo.all_set PredInfo.arity_get PredInfo.arity_set PredInfo.base_get PredInfo.base_set PredInfo.stratum_get PredInfo.stratum_set GStats.length_enc GStats.ok_enc GStats.all_get GStats.all_set GStats.rounds_get GStats.rounds_set GStats.fired_get GStats.fired_set GStats.emitted_get GStats.emitted_set GStats.fresh_get GStats.fresh_set Literal.length_enc Literal.ok_enc Literal.all_get Literal.all_set Literal.neg_get Literal.neg_set Literal.atom_get Literal.atom_set Literal.atom_pred_get Literal.atom_pred_set Literal.atom_args_get Literal.atom_args_set Engine.length_enc Engine.ok_enc Engine.all_get Engine.all_set Engine.prog_get Engine.prog_set Engine.st_get Engine.st_set Engine.levels_get Engine.levels_set Engine.running_get Engine.running_set Engine.stratum_get Engine.stratum_set Engine.round_get Engine.round_set Engine.saved_get Engine.saved_set Engine.stats_get Engine.stats_set Engine.prog_preds_get Engine.prog_preds_set Engine.prog_rules_get Engine.prog_rules_set Engine.prog_strata_get Engine.prog_strata_set Engine.stats_rounds_get Engine.stats_rounds_set Engine.stats_fired_get Engine.stats_fired_set Engine.stats_emitted_get Engine.stats_emitted_set Engine.stats_fresh_get Engine.stats_fresh_set Level.length_enc Level.ok_enc Level.all_get Level.all_set Level.heads_get Level.heads_set Level.jobs_get Level.jobs_set Plan.length_enc Plan.ok_enc Plan.all_get Plan.all_set Plan.rule_get Plan.rule_set Plan.delta_get Plan.delta_set Plan.src_get Plan.src_set Job.length_enc Job.ok_enc Job.all_get Job.all_set Job.full_get Job.full_set Job.deltas_get Job.deltas_set Job.full_rule_get Job.full_rule_set Job.full_delta_get Job.full_delta_set Job.full_src_get Job.full_src_set GState.length_enc GState.ok_enc GState.all_get GState.all_set GState.prog_get GState.prog_set GState.base_get GState.base_set GState.shown_get GState.shown_set GState.prog_preds_get GState.prog_preds_set GState.prog_rules_get GState.prog_rules_set GState.prog_strata_get GState.prog_strata_set Store.length_enc Store.ok_enc Store.all_get Store.all_set Store.arity_get Store.arity_set Store.rows_get Store.rows_set Env.length_enc Env.ok_enc Env.all_get Env.all_set Env.val_get Env.val_set Env.set_get Env.set_set
attribute [local go_sem] size_put size_ext blk_put free_put blk_alloc free_alloc blk_drew free_drew blk_ext free_ext lookOr_some putOr_some segAt_some cellAt_some storeIn_some put_put put_alloc_new length_arr ok_arr_u8 ok_arr_u32 ok_arr_u64 ok_arr_i64 ok_arr_sl cellsV_agg cellsV_int cellsV_bool cellsV_string cellsV_pointer cellsV_slice cellsV_sl ok_int ok_bool ok_string ok_pointer ok_slice ok_sl toList_arr seg_arr set_arr nth_splice nth_splice0 seg_splice seg_splice0 splice_splice splice_splice0 length_splice_if
attribute [local go_sem ↓] execOp_box
attribute [local go_sem] box_run nth_arr_u8 put_arr_u8 blk_drewN free_drewN put_drewN blk_raw free_raw
/-- What restore leaves of the first n predicates. -/
def resS (p : Pg) (S sav : List (List Tup)) : Nat → List (List Tup)
  | 0 => S
  | n + 1 => if basP p n then resS p S sav n else (((resS p S sav n).set (3 * n) (rowsAt sav n)).set (3 * n + 1) []).set (3 * n + 2) []
theorem resS_len (p : Pg) (S sav : List (List Tup)) : ∀ n, (resS p S sav n).length = S.length
  | 0 => rfl
  | n + 1 => by
    show (if _ then _ else _ : List (List Tup)).length = _
    by_cases h : basP p n = true
    · rw [if_pos h]; exact resS_len p S sav n
    · rw [if_neg h]; simp; exact resS_len p S sav n
def r1I (B : Nat) (O : Own) (W : World) (g be : Nat) (p : Pg) (x : Engine) (S sav : List (List Tup)) (f : Nat → Value) (V : World) : Prop := f 0 = .pointer (some ⟨be, 0, none⟩) ∧ ∃ i : Nat, i ≤ p.P.length ∧ f 2 = .int .i64 (i : Int) ∧ Hid (∃ O', Fr (isE g) O W O' V ∧ EAt B O' V g be p x (resS p S sav i) sav)
def r2I (B : Nat) (O : Own) (W : World) (g be : Nat) (p : Pg) (x : Engine) (S sav : List (List Tup)) (i : Nat) (L : List Tup) (f : Nat → Value) (V : World) : Prop := f 0 = .pointer (some ⟨be, 0, none⟩) ∧ f 2 = .int .i64 (i : Int) ∧ f 3 = .int .i64 (i : Int) ∧ ∃ k : Nat, k ≤ L.length ∧ f 4 = .int .i64 (k : Int) ∧ Hid (∃ O', Fr (isE g) O W O' V ∧ EAt B O' V g be p x ((((resS p S sav i).set (3 * i) (L.take k)).set (3 * i + 1) []).set (3 * i + 2) []) sav)
theorem pred_base {p : Pg} {W : World} {x : GProgram} (h : PrgC W x p) {i : Nat} (hi : i < p.P.length) : ∃ bP CP, x.preds.a = some ⟨bP, 0, none⟩ ∧ blk W bP = some CP ∧ i * 3 + 3 ≤ CP.length ∧ nth CP (i * 3 + 1) = some (.bool (basP p i)) ∧ nth CP (i * 3) = some (.int .i64 (p.P.getD i ⟨0, false, 0⟩).arity) := by
  obtain ⟨_, _, _, ⟨bP, hA⟩, _⟩ := h
  obtain ⟨y, CP, h1, h2, h3, h4, h5⟩ := hA.get hi
  rw [Nat.zero_add] at h4 h5
  have hil : (i + 1) * 3 ≤ p.P.length * 3 := Nat.mul_le_mul_right _ hi
  have e1 : p.P.getD i ⟨0, false, 0⟩ = y := by rw [List.getD_eq_getElem?_getD, h1]; rfl
  refine ⟨bP, CP, h2, h3, by omega, ?_, ?_⟩
  · have := nth_in (j := 1) h5 (PredInfo.base_get y) (by omega)
    unfold basP
    rw [e1]; exact this
  · rw [e1]; exact nth_in (j := 0) h5 (PredInfo.arity_get y) (by omega)
set_option maxRecDepth 100000 in
theorem frame77 (f : Nat → Value) : frameN 77 f = #[f 0, f 1, f 2, f 3, f 4, f 5, f 6, f 7, f 8, f 9, f 10, f 11, f 12, f 13, f 14, f 15, f 16, f 17, f 18, f 19, f 20, f 21, f 22, f 23, f 24, f 25, f 26, f 27, f 28, f 29, f 30, f 31, f 32, f 33, f 34, f 35, f 36, f 37, f 38, f 39, f 40, f 41, f 42, f 43, f 44, f 45, f 46, f 47, f 48, f 49, f 50, f 51, f 52, f 53, f 54, f 55, f 56, f 57, f 58, f 59, f 60, f 61, f 62, f 63, f 64, f 65, f 66, f 67, f 68, f 69, f 70, f 71, f 72, f 73, f 74, f 75, f 76] := by kernel_rfl
set_option maxRecDepth 40000 in
set_option maxHeartbeats 8000000 in
theorem restore_any (B : Nat) (O : Own) (W : World) (g be : Nat) (p : Pg) (x : Engine) (S sav : List (List Tup)) (hE : EAt B O W g be p x S sav) (hok : PgOk p) (hl : S.length = 3 * p.P.length) (hsv : ∀ i, i < p.P.length → basP p i = false → (rowsAt sav i).Nodup ∧ (rowsAt sav i).length ≤ 512) :
    Calls Try.prog 62 #[.pointer (some ⟨be, 0, none⟩)] W fun e W' => e = .returned (.tuple #[]) ∧ ∃ sav', EOut B O W g be p { x with running := false, stratum := 0 } (resS p S sav p.P.length) sav' W' := by
  obtain ⟨Q, hQ⟩ : ∃ Q, Q = (fun e W' => e = .returned (.tuple #[]) ∧ ∃ sav', EOut B O W g be p { x with running := false, stratum := 0 } (resS p S sav p.P.length) sav' W' : Ending → World → Prop) := ⟨_, rfl⟩
  rw [← hQ]
  have HQ := hid_of hQ
  have h64 := hok.nP
  obtain ⟨bst, _, _, hxst, _⟩ := eat_st hE
  have hlen := (eat_svl hE).1
  have hprl := (eat_prg hE).1.1
  obtain ⟨X, hX⟩ : ∃ X, X = x.enc := ⟨_, rfl⟩
  obtain ⟨xl, x0, _, _, x3, _, _, _, _, x8, _, _, _, _⟩ := eng_cells hX
  rw [hxst] at x3
  rw [hprl] at x0
  rw [hlen] at x8
  have HX := hid_of hX
  have HXS := hid_of hxst
  have HL := hid_of hl
  have HSV := hid_of hsv
  have HI0 : Hid (∃ O', Fr (isE g) O W O' W ∧ EAt B O' W g be p x (resS p S sav 0) sav) := ⟨O, Fr.refl _ _ _, hE⟩
  clear hE hQ hok hX hxst hl hsv hlen hprl
  go_enter Try.func62, Try.ntmps62
  go_upto_region 1 with fail
  refine wp_loop_f 77 (r1I B O W g be p x S sav) (fun f _ => p.P.length - (intOf (f 2)).toNat) rfl ⟨rfl, 0, by omega, rfl, HI0⟩ ?_
  clear HI0
  intro f V hrel
  obtain ⟨f0, i, hi, f2, HI⟩ := hrel
  have H2 := hid_of f2
  rw [frame77, f0, f2]
  clear f0 f2
  obtain ⟨O1, hFr, hEA⟩ := HI.out
  obtain ⟨hcell, _, _, _, _⟩ := eat_bst hEA HXS.out
  rw [← HX.out] at hcell
  by_cases hin : i < p.P.length
  · have hin' : (i : Int) < (p.P.length : Int) := by omega
    obtain ⟨bP, CP, hPa, hCP, hPl, hPb, _⟩ := pred_base (eat_prg hEA).1.uncore hin
    rw [hPa] at x0
    have i0 : (0 : Int) ≤ (i : Int) := by omega
    have i2 : ((i : Int)).toNat = i := by omega
    have i3 : i * 3 + 1 < CP.length := by omega
    by_cases hb : basP p i = true
    · rw [hb] at hPb
      have hst : resS p S sav (i + 1) = resS p S sav i := if_pos hb
      have HI' : Hid (∃ O', Fr (isE g) O W O' V ∧ EAt B O' V g be p x (resS p S sav (i + 1)) sav) := by
        rw [hst]; exact ⟨O1, hFr, hEA⟩
      clear hFr hEA HI hst hPa
      go_wp2_with fail
      refine ⟨rfl, rfl, ⟨rfl, i + 1, by omega, ?_, HI'⟩, ?_⟩
      · show Value.int .i64 _ = _
        go_num
      · show p.P.length - (intOf (Value.int .i64 _)).toNat < p.P.length - (intOf (f 2)).toNat
        rw [H2.out]
        simp [intOf]; omega
    have hb' : basP p i = false := by simpa using hb
    rw [hb'] at hPb
    have hst : resS p S sav (i + 1) = (((resS p S sav i).set (3 * i) (rowsAt sav i)).set (3 * i + 1) []).set (3 * i + 2) [] := if_neg hb
    obtain ⟨hnd, h512⟩ := HSV.out i hin hb'
    obtain ⟨L, hL⟩ : ∃ L, L = rowsAt sav i := ⟨_, rfl⟩
    rw [← hL] at hnd h512 hst
    have HST := hid_of hst
    have HLL := hid_of hL
    obtain ⟨Si, hSi⟩ : ∃ Si, Si = resS p S sav i := ⟨_, rfl⟩
    have hSl : Si.length = 3 * p.P.length := by rw [hSi, resS_len]; exact HL.out
    rw [← hSi] at hEA
    have HSI := hid_of hSi
    have HSL := hid_of hSl
    have HE1 := hid_of hEA
    have HF1 := hid_of hFr
    clear hst hL hSi hEA hFr HI
    have hcx := full_any V.drew i (by omega)
    obtain ⟨hcell', _, hsat, _, hput⟩ := eat_bst (HE1.out.ext (extd V)) HXS.out
    rw [← HX.out] at hcell'
    have hcl := clear_any B O1 V.drew g bst _ hsat (3 * i) _ (List.getElem?_eq_getElem (by (try simp only [List.length_set]); have := HSL.out; omega))
    have HPUT := hid_of hput
    have HCL := hid_of hcl
    clear hput hsat hcl
    go_upto_region 5 with fail
    refine wp_region_held_drew (S := fun W' => blk W' be = some X) (by kernel_rfl) hcell' (fun hHeld => ?_)
    refine wpAnyH_take (i := 0) (oi := ⟨_, _, _, _, _, _⟩) (v := ?_) rfl (by kernel_rfl) (by kernel_rfl) (by kernel_rfl) (fun _ _ _ h => h) (Or.inl ⟨by rfl, ?_⟩) (by assumption) ?_
    rotate_left 1
    · intro W' hSw
      go_simp
      try with_reducible rfl
    try simp only [Act.put, List.setIfInBounds_toArray, List.set_cons_zero, List.set_cons_succ]
    refine wpAnyH_take (i := 1) (oi := ⟨_, _, _, _, _, _⟩) (v := ?_) rfl (by kernel_rfl) (by kernel_rfl) (by kernel_rfl) (fun _ _ _ h => h) (Or.inl ⟨by rfl, ?_⟩) (by assumption) ?_
    rotate_left 1
    · intro W' hSw
      go_simp
      try with_reducible rfl
    try simp only [Act.put, List.setIfInBounds_toArray, List.set_cons_zero, List.set_cons_succ]
    refine wpAnyH_take (i := 2) (oi := ⟨_, _, _, _, _, _⟩) (v := ?_) rfl (by kernel_rfl) (by kernel_rfl) (by kernel_rfl) (fun _ _ _ h => h) (Or.inl ⟨by rfl, ?_⟩) (by assumption) ?_
    rotate_left 1
    · intro W' hSw
      go_simp
      try with_reducible rfl
    try simp only [Act.put, List.setIfInBounds_toArray, List.set_cons_zero, List.set_cons_succ]
    refine wpAnyH_take (i := 3) (oi := ⟨_, _, _, _, _, _⟩) (v := ?_) rfl (by kernel_rfl) (by kernel_rfl) (by kernel_rfl) (fun _ _ _ h => h) (Or.inl ⟨by rfl, ?_⟩) (by assumption) ?_
    rotate_left 1
    · intro W' hSw
      go_simp
      try with_reducible rfl
    try simp only [Act.put, List.setIfInBounds_toArray, List.set_cons_zero, List.set_cons_succ]
    refine wpAnyH_take (i := 4) (oi := ⟨_, _, _, _, _, _⟩) (v := ?_) rfl (by kernel_rfl) (by kernel_rfl) (by kernel_rfl) (fun _ _ _ h => h) (Or.inl ⟨by rfl, ?_⟩) (by assumption) ?_
    rotate_left 1
    · intro W' hSw
      go_simp
      try with_reducible rfl
    try simp only [Act.put, List.setIfInBounds_toArray, List.set_cons_zero, List.set_cons_succ]
    refine wpAnyH_ready (rs := [5]) (by kernel_rfl) (by simp) ?_
    refine AllReadyH.cons (o := ⟨_, _, _, _, _, _⟩) rfl (fun K' hK => ?_) AllReadyH.nil
    go_simp
    refine hcx.mono ?_
    rintro en V9 ⟨rfl, rfl⟩
    dsimp only
    refine hK.out _ _ hcell' (fun hHeld => ?_)
    clear hK K'
    try simp only [Act.put, List.setIfInBounds_toArray, List.set_cons_zero, List.set_cons_succ]
    refine wpAnyH_ready (rs := [6]) (by kernel_rfl) (by simp) ?_
    refine AllReadyH.cons (o := ⟨_, _, _, _, _, _⟩) rfl (fun K' hK => ?_) AllReadyH.nil
    go_simp
    refine HCL.out.mono ?_
    rintro en V2 ⟨rfl, O2, hf3, hs3⟩
    dsimp only
    refine hK.out _ _ (by have h9 := (eat_bst (HPUT.out _ O2 V2 hf3 hs3) HXS.out).1; rw [← HX.out] at h9; exact h9) (fun hHeld => ?_)
    clear hK K'
    try simp only [Act.put, List.setIfInBounds_toArray, List.set_cons_zero, List.set_cons_succ]
    refine wpAnyH_done (by kernel_rfl) ?_ _
    have HE2 : Hid (EAt B O2 V2 g be p x (Si.set (3 * i) []) sav) := HPUT.out _ O2 V2 hf3 hs3
    have hff3 : Fr (isE g) O1 V O2 V2 := (Fr.of_extends (extd V)).trans (hf3.mono (fun l h => .inl h))
    have HF2 : Hid (Fr (isE g) O W O2 V2) := HF1.out.trans hff3
    clear hff3 hf3 hs3 HF1 HE1 HPUT HCL hcx hHeld hcell'
    have hcx := delta_any V2.drew i (by omega)
    obtain ⟨hcell', _, hsat, _, hput⟩ := eat_bst (HE2.out.ext (extd V2)) HXS.out
    rw [← HX.out] at hcell'
    have hcl := clear_any B O2 V2.drew g bst _ hsat (3 * i + 1) _ (List.getElem?_eq_getElem (by (try simp only [List.length_set]); have := HSL.out; omega))
    have HPUT := hid_of hput
    have HCL := hid_of hcl
    clear hput hsat hcl
    go_upto_region 6 with fail
    refine wp_region_held_drew (S := fun W' => blk W' be = some X) (by kernel_rfl) hcell' (fun hHeld => ?_)
    refine wpAnyH_take (i := 0) (oi := ⟨_, _, _, _, _, _⟩) (v := ?_) rfl (by kernel_rfl) (by kernel_rfl) (by kernel_rfl) (fun _ _ _ h => h) (Or.inl ⟨by rfl, ?_⟩) (by assumption) ?_
    rotate_left 1
    · intro W' hSw
      go_simp
      try with_reducible rfl
    try simp only [Act.put, List.setIfInBounds_toArray, List.set_cons_zero, List.set_cons_succ]
    refine wpAnyH_take (i := 1) (oi := ⟨_, _, _, _, _, _⟩) (v := ?_) rfl (by kernel_rfl) (by kernel_rfl) (by kernel_rfl) (fun _ _ _ h => h) (Or.inl ⟨by rfl, ?_⟩) (by assumption) ?_
    rotate_left 1
    · intro W' hSw
      go_simp
      try with_reducible rfl
    try simp only [Act.put, List.setIfInBounds_toArray, List.set_cons_zero, List.set_cons_succ]
    refine wpAnyH_take (i := 2) (oi := ⟨_, _, _, _, _, _⟩) (v := ?_) rfl (by kernel_rfl) (by kernel_rfl) (by kernel_rfl) (fun _ _ _ h => h) (Or.inl ⟨by rfl, ?_⟩) (by assumption) ?_
    rotate_left 1
    · intro W' hSw
      go_simp
      try with_reducible rfl
    try simp only [Act.put, List.setIfInBounds_toArray, List.set_cons_zero, List.set_cons_succ]
    refine wpAnyH_take (i := 3) (oi := ⟨_, _, _, _, _, _⟩) (v := ?_) rfl (by kernel_rfl) (by kernel_rfl) (by kernel_rfl) (fun _ _ _ h => h) (Or.inl ⟨by rfl, ?_⟩) (by assumption) ?_
    rotate_left 1
    · intro W' hSw
      go_simp
      try with_reducible rfl
    try simp only [Act.put, List.setIfInBounds_toArray, List.set_cons_zero, List.set_cons_succ]
    refine wpAnyH_take (i := 4) (oi := ⟨_, _, _, _, _, _⟩) (v := ?_) rfl (by kernel_rfl) (by kernel_rfl) (by kernel_rfl) (fun _ _ _ h => h) (Or.inl ⟨by rfl, ?_⟩) (by assumption) ?_
    rotate_left 1
    · intro W' hSw
      go_simp
      try with_reducible rfl
    try simp only [Act.put, List.setIfInBounds_toArray, List.set_cons_zero, List.set_cons_succ]
    refine wpAnyH_ready (rs := [5]) (by kernel_rfl) (by simp) ?_
    refine AllReadyH.cons (o := ⟨_, _, _, _, _, _⟩) rfl (fun K' hK => ?_) AllReadyH.nil
    go_simp
    refine hcx.mono ?_
    rintro en V9 ⟨rfl, rfl⟩
    dsimp only
    refine hK.out _ _ hcell' (fun hHeld => ?_)
    clear hK K'
    try simp only [Act.put, List.setIfInBounds_toArray, List.set_cons_zero, List.set_cons_succ]
    refine wpAnyH_ready (rs := [6]) (by kernel_rfl) (by simp) ?_
    refine AllReadyH.cons (o := ⟨_, _, _, _, _, _⟩) rfl (fun K' hK => ?_) AllReadyH.nil
    go_simp
    refine HCL.out.mono ?_
    rintro en V3 ⟨rfl, O3, hf3, hs3⟩
    dsimp only
    refine hK.out _ _ (by have h9 := (eat_bst (HPUT.out _ O3 V3 hf3 hs3) HXS.out).1; rw [← HX.out] at h9; exact h9) (fun hHeld => ?_)
    clear hK K'
    try simp only [Act.put, List.setIfInBounds_toArray, List.set_cons_zero, List.set_cons_succ]
    refine wpAnyH_done (by kernel_rfl) ?_ _
    have HE3 : Hid (EAt B O3 V3 g be p x ((Si.set (3 * i) []).set (3 * i + 1) []) sav) := HPUT.out _ O3 V3 hf3 hs3
    have hff3 : Fr (isE g) O2 V2 O3 V3 := (Fr.of_extends (extd V2)).trans (hf3.mono (fun l h => .inl h))
    have HF3 : Hid (Fr (isE g) O W O3 V3) := HF2.out.trans hff3
    clear hff3 hf3 hs3 HF2 HE2 HPUT HCL hcx hHeld hcell'
    have hcx := next_any V3.drew i (by omega)
    obtain ⟨hcell', _, hsat, _, hput⟩ := eat_bst (HE3.out.ext (extd V3)) HXS.out
    rw [← HX.out] at hcell'
    have hcl := clear_any B O3 V3.drew g bst _ hsat (3 * i + 2) _ (List.getElem?_eq_getElem (by (try simp only [List.length_set]); have := HSL.out; omega))
    have HPUT := hid_of hput
    have HCL := hid_of hcl
    clear hput hsat hcl
    go_upto_region 7 with fail
    refine wp_region_held_drew (S := fun W' => blk W' be = some X) (by kernel_rfl) hcell' (fun hHeld => ?_)
    refine wpAnyH_take (i := 0) (oi := ⟨_, _, _, _, _, _⟩) (v := ?_) rfl (by kernel_rfl) (by kernel_rfl) (by kernel_rfl) (fun _ _ _ h => h) (Or.inl ⟨by rfl, ?_⟩) (by assumption) ?_
    rotate_left 1
    · intro W' hSw
      go_simp
      try with_reducible rfl
    try simp only [Act.put, List.setIfInBounds_toArray, List.set_cons_zero, List.set_cons_succ]
    refine wpAnyH_take (i := 1) (oi := ⟨_, _, _, _, _, _⟩) (v := ?_) rfl (by kernel_rfl) (by kernel_rfl) (by kernel_rfl) (fun _ _ _ h => h) (Or.inl ⟨by rfl, ?_⟩) (by assumption) ?_
    rotate_left 1
    · intro W' hSw
      go_simp
      try with_reducible rfl
    try simp only [Act.put, List.setIfInBounds_toArray, List.set_cons_zero, List.set_cons_succ]
    refine wpAnyH_take (i := 2) (oi := ⟨_, _, _, _, _, _⟩) (v := ?_) rfl (by kernel_rfl) (by kernel_rfl) (by kernel_rfl) (fun _ _ _ h => h) (Or.inl ⟨by rfl, ?_⟩) (by assumption) ?_
    rotate_left 1
    · intro W' hSw
      go_simp
      try with_reducible rfl
    try simp only [Act.put, List.setIfInBounds_toArray, List.set_cons_zero, List.set_cons_succ]
    refine wpAnyH_take (i := 3) (oi := ⟨_, _, _, _, _, _⟩) (v := ?_) rfl (by kernel_rfl) (by kernel_rfl) (by kernel_rfl) (fun _ _ _ h => h) (Or.inl ⟨by rfl, ?_⟩) (by assumption) ?_
    rotate_left 1
    · intro W' hSw
      go_simp
      try with_reducible rfl
    try simp only [Act.put, List.setIfInBounds_toArray, List.set_cons_zero, List.set_cons_succ]
    refine wpAnyH_take (i := 4) (oi := ⟨_, _, _, _, _, _⟩) (v := ?_) rfl (by kernel_rfl) (by kernel_rfl) (by kernel_rfl) (fun _ _ _ h => h) (Or.inl ⟨by rfl, ?_⟩) (by assumption) ?_
    rotate_left 1
    · intro W' hSw
      go_simp
      try with_reducible rfl
    try simp only [Act.put, List.setIfInBounds_toArray, List.set_cons_zero, List.set_cons_succ]
    refine wpAnyH_ready (rs := [5]) (by kernel_rfl) (by simp) ?_
    refine AllReadyH.cons (o := ⟨_, _, _, _, _, _⟩) rfl (fun K' hK => ?_) AllReadyH.nil
    go_simp
    refine hcx.mono ?_
    rintro en V9 ⟨rfl, rfl⟩
    dsimp only
    refine hK.out _ _ hcell' (fun hHeld => ?_)
    clear hK K'
    try simp only [Act.put, List.setIfInBounds_toArray, List.set_cons_zero, List.set_cons_succ]
    refine wpAnyH_ready (rs := [6]) (by kernel_rfl) (by simp) ?_
    refine AllReadyH.cons (o := ⟨_, _, _, _, _, _⟩) rfl (fun K' hK => ?_) AllReadyH.nil
    go_simp
    refine HCL.out.mono ?_
    rintro en V4 ⟨rfl, O4, hf3, hs3⟩
    dsimp only
    refine hK.out _ _ (by have h9 := (eat_bst (HPUT.out _ O4 V4 hf3 hs3) HXS.out).1; rw [← HX.out] at h9; exact h9) (fun hHeld => ?_)
    clear hK K'
    try simp only [Act.put, List.setIfInBounds_toArray, List.set_cons_zero, List.set_cons_succ]
    refine wpAnyH_done (by kernel_rfl) ?_ _
    have HE4 : Hid (EAt B O4 V4 g be p x (((Si.set (3 * i) []).set (3 * i + 1) []).set (3 * i + 2) []) sav) := HPUT.out _ O4 V4 hf3 hs3
    have hff3 : Fr (isE g) O3 V3 O4 V4 := (Fr.of_extends (extd V3)).trans (hf3.mono (fun l h => .inl h))
    have HF4 : Hid (Fr (isE g) O W O4 V4) := HF3.out.trans hff3
    clear hff3 hf3 hs3 HF3 HE3 HPUT HCL hcx hHeld hcell'
    clear hcell
    have HI2 : Hid (∃ O', Fr (isE g) O W O' V4 ∧ EAt B O' V4 g be p x ((((resS p S sav i).set (3 * i) (L.take 0)).set (3 * i + 1) []).set (3 * i + 2) []) sav) := by
      rw [← HSI.out]
      exact ⟨O4, HF4.out, HE4.out⟩
    go_upto_region 9 with fail
    refine wp_loop_f 77 (r2I B O W g be p x S sav i L) (fun f _ => L.length - (intOf (f 4)).toNat) rfl ⟨rfl, rfl, rfl, 0, by omega, rfl, HI2⟩ ?_
    clear HI2 HE4 HF4 HSL HSI hSl Si
    intro f' V5 hrel
    obtain ⟨f0, f2, f3, k, hk, f4, HI⟩ := hrel
    have H4 := hid_of f4
    rw [frame77, f0, f2, f3, f4]
    clear f0 f2 f3 f4
    obtain ⟨O5, hFr, hEA⟩ := HI.out
    obtain ⟨bs, Cs, d, L', hsa, hCs, hCf, hil, hnb, _, hOs, hcl, hL', hRw, _⟩ := eat_sav hEA hin
    rw [hsa] at x8
    have hLL' : L' = L := by rw [HLL.out]; exact (rowsAt_some hL').symm
    subst hLL'
    have hdl : d.len = L'.length := hRw.1.symm
    rw [hdl] at hcl hRw
    obtain ⟨hcell, _, _, _, _⟩ := eat_bst hEA HXS.out
    rw [← HX.out] at hcell
    by_cases hkn : k < L'.length
    · have hkn' : (k : Int) < (L'.length : Int) := by omega
      obtain ⟨t, ht⟩ : ∃ t, L'[k]? = some t := ⟨_, List.getElem?_eq_getElem hkn⟩
      obtain ⟨bn, Cn, ha, hCn0, hcn, _, un⟩ := tup_at hRw ht
      rw [ha] at hcl
      have hCn := (core_blk hCn0).1
      have HCN := hid_of hCn0
      have k0 : (0 : Int) ≤ (k : Int) := by omega
      have k2 : ((k : Int)).toNat = k := by omega
      have k5 : k * 4 < Cn.length := by omega
      have htk : L'.take (k + 1) = L'.take k ++ [t] := take_at ht
      have htk0 : t ∉ L'.take k := fun hm => by
        obtain ⟨j, hj⟩ := List.mem_iff_getElem?.1 hm
        rw [List.getElem?_take] at hj
        by_cases hjk : j < k
        · rw [if_pos hjk] at hj
          have h1 := (List.getElem?_inj (by omega) hnd).1 (hj.trans ht.symm)
          omega
        · rw [if_neg hjk] at hj; cases hj
      have hin2 : insL (L'.take k) t = L'.take (k + 1) := by
        have hn : ¬ (L'.take k).length = 512 := by rw [List.length_take]; omega
        unfold insL; rw [if_neg htk0, if_neg hn, htk]
      have hfx := full_any V5.drew i (by omega)
      obtain ⟨_, _, hsat, _, hput⟩ := eat_bst (hEA.ext (extd V5)) HXS.out
      have hlS := HL.out
      have hrl := resS_len p S sav i
      have hins := insert_any B O5 V5.drew g bst _ hsat (3 * i) (L'.take k) (by rw [List.getElem?_set_ne (by omega), List.getElem?_set_ne (by omega), List.getElem?_set_self (by omega)]) (by rw [List.length_take]; omega) t
      rw [hin2, List.set_comm _ _ (by omega : 3 * i + 2 ≠ 3 * i), List.set_comm _ _ (by omega : 3 * i + 1 ≠ 3 * i), List.set_set] at hins
      have HPUT := hid_of hput
      have HINS := hid_of hins
      have HFR := hid_of hFr
      have HOS := hid_of hOs
      clear HI hFr hEA hput hins hsat hin2 htk htk0 hRw hL' hsa hdl hlS hrl ha hCn0 ht hOs
      go_upto_region 11 with fail
      refine wp_region_held_drew (S := fun W' => blk W' be = some X ∧ blk W' bs = some Cs ∧ blk W' bn = some Cn) (by kernel_rfl) ⟨hcell, hCs, hCn⟩ (fun hHeld => ?_)
      refine wpAnyH_take (i := 0) (oi := ⟨_, _, _, _, _, _⟩) (v := ?_) rfl (by kernel_rfl) (by kernel_rfl) (by kernel_rfl) (fun _ _ _ h => h) (Or.inl ⟨by rfl, ?_⟩) (by assumption) ?_
      rotate_left 1
      · intro W' hSw
        obtain ⟨hS1, hS2, hS3⟩ := hSw
        go_simp
        try with_reducible rfl
      try simp only [Act.put, List.setIfInBounds_toArray, List.set_cons_zero, List.set_cons_succ]
      refine wpAnyH_take (i := 1) (oi := ⟨_, _, _, _, _, _⟩) (v := ?_) rfl (by kernel_rfl) (by kernel_rfl) (by kernel_rfl) (fun _ _ _ h => h) (Or.inl ⟨by rfl, ?_⟩) (by assumption) ?_
      rotate_left 1
      · intro W' hSw
        obtain ⟨hS1, hS2, hS3⟩ := hSw
        go_simp
        try with_reducible rfl
      try simp only [Act.put, List.setIfInBounds_toArray, List.set_cons_zero, List.set_cons_succ]
      refine wpAnyH_take (i := 2) (oi := ⟨_, _, _, _, _, _⟩) (v := ?_) rfl (by kernel_rfl) (by kernel_rfl) (by kernel_rfl) (fun _ _ _ h => h) (Or.inl ⟨by rfl, ?_⟩) (by assumption) ?_
      rotate_left 1
      · intro W' hSw
        obtain ⟨hS1, hS2, hS3⟩ := hSw
        go_simp
        try with_reducible rfl
      try simp only [Act.put, List.setIfInBounds_toArray, List.set_cons_zero, List.set_cons_succ]
      refine wpAnyH_take (i := 3) (oi := ⟨_, _, _, _, _, _⟩) (v := ?_) rfl (by kernel_rfl) (by kernel_rfl) (by kernel_rfl) (fun _ _ _ h => h) (Or.inl ⟨by rfl, ?_⟩) (by assumption) ?_
      rotate_left 1
      · intro W' hSw
        obtain ⟨hS1, hS2, hS3⟩ := hSw
        go_simp
        try with_reducible rfl
      try simp only [Act.put, List.setIfInBounds_toArray, List.set_cons_zero, List.set_cons_succ]
      refine wpAnyH_take (i := 4) (oi := ⟨_, _, _, _, _, _⟩) (v := ?_) rfl (by kernel_rfl) (by kernel_rfl) (by kernel_rfl) (fun _ _ _ h => h) (Or.inl ⟨by rfl, ?_⟩) (by assumption) ?_
      rotate_left 1
      · intro W' hSw
        obtain ⟨hS1, hS2, hS3⟩ := hSw
        go_simp
        try with_reducible rfl
      try simp only [Act.put, List.setIfInBounds_toArray, List.set_cons_zero, List.set_cons_succ]
      refine wpAnyH_take (i := 6) (oi := ⟨_, _, _, _, _, _⟩) (v := ?_) rfl (by kernel_rfl) (by kernel_rfl) (by kernel_rfl) (fun _ _ _ h => h) (Or.inl ⟨by rfl, ?_⟩) (by assumption) ?_
      rotate_left 1
      · intro W' hSw
        obtain ⟨hS1, hS2, hS3⟩ := hSw
        go_simp
        try with_reducible rfl
      try simp only [Act.put, List.setIfInBounds_toArray, List.set_cons_zero, List.set_cons_succ]
      refine wpAnyH_take (i := 7) (oi := ⟨_, _, _, _, _, _⟩) (v := ?_) rfl (by kernel_rfl) (by kernel_rfl) (by kernel_rfl) (fun _ _ _ h => h) (Or.inl ⟨by rfl, ?_⟩) (by assumption) ?_
      rotate_left 1
      · intro W' hSw
        obtain ⟨hS1, hS2, hS3⟩ := hSw
        go_simp
        try with_reducible rfl
      try simp only [Act.put, List.setIfInBounds_toArray, List.set_cons_zero, List.set_cons_succ]
      refine wpAnyH_take (i := 8) (oi := ⟨_, _, _, _, _, _⟩) (v := ?_) rfl (by kernel_rfl) (by kernel_rfl) (by kernel_rfl) (fun _ _ _ h => h) (Or.inl ⟨by rfl, ?_⟩) (by assumption) ?_
      rotate_left 1
      · intro W' hSw
        obtain ⟨hS1, hS2, hS3⟩ := hSw
        go_simp
        try with_reducible rfl
      try simp only [Act.put, List.setIfInBounds_toArray, List.set_cons_zero, List.set_cons_succ]
      refine wpAnyH_take (i := 9) (oi := ⟨_, _, _, _, _, _⟩) (v := ?_) rfl (by kernel_rfl) (by kernel_rfl) (by kernel_rfl) (fun _ _ _ h => h) (Or.inl ⟨by rfl, ?_⟩) (by assumption) ?_
      rotate_left 1
      · intro W' hSw
        obtain ⟨hS1, hS2, hS3⟩ := hSw
        go_simp
        try with_reducible rfl
      try simp only [Act.put, List.setIfInBounds_toArray, List.set_cons_zero, List.set_cons_succ]
      refine wpAnyH_take (i := 10) (oi := ⟨_, _, _, _, _, _⟩) (v := ?_) rfl (by kernel_rfl) (by kernel_rfl) (by kernel_rfl) (fun _ _ _ h => h) (Or.inl ⟨by rfl, ?_⟩) (by assumption) ?_
      rotate_left 1
      · intro W' hSw
        obtain ⟨hS1, hS2, hS3⟩ := hSw
        go_simp
        try with_reducible rfl
      try simp only [Act.put, List.setIfInBounds_toArray, List.set_cons_zero, List.set_cons_succ]
      refine wpAnyH_take (i := 11) (oi := ⟨_, _, _, _, _, _⟩) (v := ?_) rfl (by kernel_rfl) (by kernel_rfl) (by kernel_rfl) (fun _ _ _ h => h) (Or.inl ⟨by rfl, ?_⟩) (by assumption) ?_
      rotate_left 1
      · intro W' hSw
        obtain ⟨hS1, hS2, hS3⟩ := hSw
        go_simp
        try with_reducible rfl
      try simp only [Act.put, List.setIfInBounds_toArray, List.set_cons_zero, List.set_cons_succ]
      refine wpAnyH_take (i := 12) (oi := ⟨_, _, _, _, _, _⟩) (v := ?_) rfl (by kernel_rfl) (by kernel_rfl) (by kernel_rfl) (fun _ _ _ h => h) (Or.inl ⟨by rfl, ?_⟩) (by assumption) ?_
      rotate_left 1
      · intro W' hSw
        obtain ⟨hS1, hS2, hS3⟩ := hSw
        go_simp
        try with_reducible rfl
      try simp only [Act.put, List.setIfInBounds_toArray, List.set_cons_zero, List.set_cons_succ]
      refine wpAnyH_take (i := 13) (oi := ⟨_, _, _, _, _, _⟩) (v := ?_) rfl (by kernel_rfl) (by kernel_rfl) (by kernel_rfl) (fun _ _ _ h => h) (Or.inl ⟨by rfl, ?_⟩) (by assumption) ?_
      rotate_left 1
      · intro W' hSw
        obtain ⟨hS1, hS2, hS3⟩ := hSw
        go_simp
        try with_reducible rfl
      try simp only [Act.put, List.setIfInBounds_toArray, List.set_cons_zero, List.set_cons_succ]
      refine wpAnyH_take (i := 14) (oi := ⟨_, _, _, _, _, _⟩) (v := ?_) rfl (by kernel_rfl) (by kernel_rfl) (by kernel_rfl) (fun _ _ _ h => h) (Or.inl ⟨by rfl, ?_⟩) (by assumption) ?_
      rotate_left 1
      · intro W' hSw
        obtain ⟨hS1, hS2, hS3⟩ := hSw
        go_simp
        try with_reducible rfl
      try simp only [Act.put, List.setIfInBounds_toArray, List.set_cons_zero, List.set_cons_succ]
      refine wpAnyH_take (i := 15) (oi := ⟨_, _, _, _, _, _⟩) (v := ?_) rfl (by kernel_rfl) (by kernel_rfl) (by kernel_rfl) (fun _ _ _ h => h) (Or.inl ⟨by rfl, ?_⟩) (by assumption) ?_
      rotate_left 1
      · intro W' hSw
        obtain ⟨hS1, hS2, hS3⟩ := hSw
        go_simp
        try with_reducible rfl
      try simp only [Act.put, List.setIfInBounds_toArray, List.set_cons_zero, List.set_cons_succ]
      refine wpAnyH_ready (rs := [5]) (by kernel_rfl) (by simp) ?_
      refine AllReadyH.cons (o := ⟨_, _, _, _, _, _⟩) rfl (fun K' hK => ?_) AllReadyH.nil
      go_simp
      refine hfx.mono ?_
      rintro en V6 ⟨rfl, rfl⟩
      dsimp only
      refine hK.out _ _ ⟨hcell, hCs, hCn⟩ (fun hHeld => ?_)
      clear hK K'
      try simp only [Act.put, List.setIfInBounds_toArray, List.set_cons_zero, List.set_cons_succ]
      refine wpAnyH_ready (rs := [16]) (by kernel_rfl) (by simp) ?_
      refine AllReadyH.cons (o := ⟨_, _, _, _, _, _⟩) rfl (fun K' hK => ?_) AllReadyH.nil
      go_simp
      refine HINS.out.mono ?_
      rintro en V7 ⟨rfl, O7, hf7, hs7⟩
      dsimp only
      have hff7 : Fr (isE g) O5 V5 O7 V7 := (Fr.of_extends (extd V5)).trans (hf7.mono (fun l h => .inl h))
      have hE7 := HPUT.out _ O7 V7 hf7 hs7
      have hcell7 : blk V7 be = some X := by rw [HX.out]; exact (eat_bst hE7 HXS.out).1
      have hCn7 : blk V7 bn = some Cn := (core_blk (((core_fr hff7 (isE_no g)).blk (blk_lt HCN.out)).trans HCN.out)).1
      have hCs7 : blk V7 bs = some Cs := hf7.blk (W := V5.drew) hCs (by rw [HOS.out]; rintro ⟨z, e⟩; injection e with e _; omega)
      clear hff7 hE7
      refine hK.out _ _ ⟨hcell7, hCs7, hCn7⟩ (fun hHeld => ?_)
      clear hK K'
      try simp only [Act.put, List.setIfInBounds_toArray, List.set_cons_zero, List.set_cons_succ]
      refine wpAnyH_done (by kernel_rfl) ?_ _
      clear hHeld
      have HI' : Hid (∃ O', Fr (isE g) O W O' V7 ∧ EAt B O' V7 g be p x ((((resS p S sav i).set (3 * i) (L'.take (k + 1))).set (3 * i + 1) []).set (3 * i + 2) []) sav) := ⟨O7, HFR.out.trans ((Fr.of_extends (extd V5)).trans (hf7.mono (fun l h => .inl h))), HPUT.out _ O7 V7 hf7 hs7⟩
      clear hf7 hs7 HFR HPUT HINS
      go_wp2_with fail
      refine ⟨rfl, rfl, ⟨rfl, rfl, rfl, k + 1, by omega, ?_, HI'⟩, ?_⟩
      · show Value.int .i64 _ = _
        go_num
      · show L'.length - (intOf (Value.int .i64 _)).toNat < L'.length - (intOf (f' 4)).toNat
        rw [H4.out]
        simp [intOf]; omega
    · obtain rfl : k = L'.length := by omega
      have hkn' : ¬ ((L'.length : Int) < (L'.length : Int)) := by omega
      have HI' : Hid (∃ O', Fr (isE g) O W O' V5 ∧ EAt B O' V5 g be p x (resS p S sav (i + 1)) sav) := by
        rw [List.take_of_length_le (Nat.le_refl _)] at hEA
        rw [HST.out]
        exact ⟨O5, hFr, hEA⟩
      clear HI hFr hEA hkn hRw hL' hsa hdl
      go_wp2_with fail
      refine ⟨rfl, rfl, ⟨rfl, i + 1, by omega, ?_, HI'⟩, ?_⟩
      · show Value.int .i64 _ = _
        go_num
      · show p.P.length - (intOf (Value.int .i64 _)).toNat < p.P.length - (intOf (f 2)).toNat
        rw [H2.out]
        simp [intOf]; omega
  · obtain rfl : i = p.P.length := by omega
    have hin' : ¬ ((p.P.length : Int) < (p.P.length : Int)) := by omega
    have hfin := finish_any B O1 V g be p x _ sav hEA h64
    have HFI := hid_of hfin
    have HFR := hid_of hFr
    clear HI hFr hEA hfin
    go_wp2_with fail
    refine HFI.out.mono ?_
    rintro en V5 ⟨rfl, sav', hE5, hF5⟩
    have HP : Hid (Q (.returned (.tuple #[])) V5) := by
      show Q _ _
      rw [HQ.out]
      exact ⟨rfl, sav', O1, HFR.out.trans hF5, hE5⟩
    clear HFI HFR hE5 hF5
    dsimp only
    go_wp2_with fail
    go_end0
    exact HP.out
end Go.Proofs.Qxb6500788a
