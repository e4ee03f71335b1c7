import Derived.Test.Qxb6500788aEg
import Derived.StillTailTactics
import Derived.Deep.QuietTactic
import Derived.BigQuiet
import Derived.Deep.RegionHeld
import Derived.Deep.CutRange
import Derived.Laws.ResultCell
import Derived.Laws.Rows
import Derived.DeepKeys
import Derived.DataBytes
import Derived.Laws.StructEq
import Derived.Laws.AppendOwn
import Derived.Laws.MakeOwn
set_option linter.unusedSimpArgs false
set_option linter.unusedVariables false
namespace Go.Proofs.Qxb6500788a
open Go.RowKit Go.Blk
attribute [local go_sem ↓] execOp_load execOp_store execOp_alloc
attribute [local go_sem] Try.ld24 Try.st24 Try.ld25 Try.st25 Try.ld3 Try.st3 Try.ld30 Try.st30 Try.ld36 Try.st36 Try.ld4 Try.st4 Try.ld41 Try.st41 Try.ld50 Try.st50 Try.ld40 Try.st40 Try.ld42 Try.st42 Try.ld89 Try.st89 Try.ld91 Try.st91 Try.ld56 Try.st56 Try.ld97 Try.st97 Try.ld98 Try.st98 Try.ld101 Try.st101 Try.ld104 Try.st104 Try.ld57 Try.st57 Try.ld130 Try.st130 Try.ld2 Try.st2 Try.ld5 Try.st5 Try.ld9 Try.st9 Try.ld12 Try.st12 Try.ld21 Try.st21 Try.ld22 Try.st22 Try.ld29 Try.st29 Try.ld33 Try.st33 Try.ld59 Try.st59 Try.ld62 Try.st62 Try.ld69 Try.st69 Try.ld94 Try.st94 Try.ld96 Try.st96 Try.ld129 Try.st129 Try.ld158 Try.st158 Try.ld162 Try.st162 Try.ld47 Try.st47 Try.ld44 Try.st44 Try.ld137 Try.st137 Try.ld145 Try.st145 Try.ld43 Try.st43 Try.ld27 Try.st27 Try.ld38 Try.st38 Try.ld46 Try.st46 Try.ld49 Try.st49 Try.ld52 Try.st52 Try.ld54 Try.st54 Try.ld61 Try.st61 Try.ld80 Try.st80 Try.ld87 Try.st87 Try.ld93 Try.st93 Try.ld100 Try.st100 Try.ld103 Try.st103 Try.ld106 Try.st106 Try.ld109 Try.st109 Try.ld132 Try.st132 Try.ld147 Try.st147 Try.al47 Try.al44 Try.al137 Try.al145 Try.al43 Try.al27 Try.al38 Try.al46 Try.al49 Try.al52 Try.al54 Try.al61 Try.al80 Try.al87 Try.al93 Try.al100 Try.al103 Try.al106 Try.al109 Try.al132 Try.al147
attribute [local go_sem] GProgram.length_enc GProgram.ok_enc GProgram.all_get GProgram.all_set GProgram.preds_get GProgram.preds_set GProgram.rules_get GProgram.rules_set GProgram.strata_get GProgram.strata_set Answer.length_enc Answer.ok_enc Answer.all_get Answer.all_set Answer.code_get Answer.code_set Answer.n_get Answer.n_set Answer.rows_get Answer.rows_set Term.length_enc Term.ok_enc Term.all_get Term.all_set Term.var_get Term.var_set Term.n_get Term.n_set Atom.length_enc Atom.ok_enc Atom.all_get Atom.all_set Atom.pred_get Atom.pred_set Atom.args_get Atom.args_set GRule.length_enc GRule.ok_enc GRule.all_get GRule.all_set GRule.head_get GRule.head_set GRule.body_get GRule.body_set GRule.head_pred_get GRule.head_pred_set GRule.head_args_get GRule.head_args_set GOp.length_enc GOp.ok_enc GOp.all_get GOp.all_set GOp.kind_get GOp.kind_set GOp.pred_get GOp.pred_set GOp.t_get GOp.t_set GOp.n_get GOp.n_set GOp.base_get GOp.base_set GOp.rule_get GOp.rule_set GOp.rule_head_get GOp.rule_head_set GOp.rule_body_get GOp.rule_body_set GOp.rule_head_pred_get GOp.rule_head_pred_set GOp.rule_head_args_get GOp.rule_head_args_set PredInfo.length_enc PredInfo.ok_enc PredInfo.all_get PredInfo.all_set PredInfo.arity_get PredInfo.arity_set PredInfo.base_get PredInfo.base_set PredInfo.stratum_get PredInfo.stratum_set GStats.length_enc GStats.ok_enc GStats.all_get GStats.all_set GStats.rounds_get GStats.rounds_set GStats.fired_get GStats.fired_set GStats.emitted_get GStats.emitted_set GStats.fresh_get GStats.fresh_set Literal.length_enc Literal.ok_enc Literal.all_get Literal.all_set Literal.neg_get Literal.neg_set Literal.atom_get Literal.atom_set Literal.atom_pred_get Literal.atom_pred_set Literal.atom_args_get Literal.atom_args_set Engine.length_enc Engine.ok_enc Engine.all_get Engine.all_set Engine.prog_get Engine.prog_set Engine.st_get Engine.st_set Engine.levels_get Engine.levels_set Engine.running_get Engine.running_set Engine.stratum_get Engine.stratum_set Engine.round_get Engine.round_set Engine.saved_get Engine.saved_set Engine.stats_get Engine.stats_set Engine.prog_preds_get Engine.prog_preds_set Engine.prog_rules_get Engine.prog_rules_set Engine.prog_strata_get Engine.prog_strata_set Engine.stats_rounds_get Engine.stats_rounds_set Engine.stats_fired_get Engine.stats_fired_set Engine.stats_emitted_get Engine.stats_emitted_set Engine.stats_fresh_get Engine.stats_fresh_set Level.length_enc Level.ok_enc Level.all_get Level.all_set Level.heads_get Level.heads_set Level.jobs_get Level.jobs_set Plan.length_enc Plan.ok_enc Plan.all_get Plan.all_set Plan.rule_get Plan.rule_set Plan.delta_get Plan.delta_set Plan.src_get Plan.src_set Job.length_enc Job.ok_enc Job.all_get Job.all_set Job.full_get Job.full_set Job.deltas_get Job.deltas_set Job.full_rule_get Job.full_rule_set Job.full_delta_get Job.full_delta_set Job.full_src_get Job.full_src_set GState.length_enc GState.ok_enc GState.all_get GState.all_set GState.prog_get GState.prog_set GState.base_get GState.base_set GState.shown_get GState.shown_set GState.prog_preds_get GState.prog_preds_set GState.prog_rules_get GState.prog_rules_set GState.prog_strata_get GState.prog_strata_set Store.length_enc Store.ok_enc Store.all_get Store.all_set Store.arity_get Store.arity_set Store.rows_get Store.rows_set Env.length_enc Env.ok_enc Env.all_get Env.all_set Env.val_get Env.val_set Env.set_get Env.set_set
attribute [local go_sem] size_put size_ext blk_put free_put blk_alloc free_alloc blk_drew free_drew blk_ext free_ext lookOr_some putOr_some segAt_some cellAt_some storeIn_some put_put put_alloc_new length_arr ok_arr_u8 ok_arr_u32 ok_arr_u64 ok_arr_i64 ok_arr_sl cellsV_agg cellsV_int cellsV_bool cellsV_string cellsV_pointer cellsV_slice cellsV_sl ok_int ok_bool ok_string ok_pointer ok_slice ok_sl toList_arr seg_arr set_arr nth_splice nth_splice0 seg_splice seg_splice0 splice_splice splice_splice0 length_splice_if
attribute [local go_sem ↓] execOp_box
attribute [local go_sem] box_run nth_arr_u8 put_arr_u8 blk_drewN free_drewN put_drewN blk_raw free_raw
/-- What Begin leaves of the first n predicates. -/
def begS (p : Pg) (S : List (List Tup)) : Nat → List (List Tup)
  | 0 => S
  | n + 1 => if basP p n then begS p S n else (begS p S n).set (3 * n) []
def begV (p : Pg) (S sav : List (List Tup)) : Nat → List (List Tup)
  | 0 => sav
  | n + 1 => if basP p n then begV p S sav n else (begV p S sav n).set n (rowsAt S (3 * n))
theorem begS_len (p : Pg) (S : List (List Tup)) : ∀ n, (begS p S n).length = S.length
  | 0 => rfl
  | n + 1 => by
    show (if _ then _ else _ : List (List Tup)).length = _
    by_cases h : basP p n = true
    · rw [if_pos h]; exact begS_len p S n
    · rw [if_neg h]; simp; exact begS_len p S n
theorem begS_o (p : Pg) (S : List (List Tup)) {r : Nat} : ∀ n, 3 * n ≤ r → (begS p S n)[r]? = S[r]?
  | 0, _ => rfl
  | n + 1, h => by
    show (if _ then _ else _ : List (List Tup))[r]? = _
    by_cases hb : basP p n = true
    · rw [if_pos hb]; exact begS_o p S n (by omega)
    · rw [if_neg hb, List.getElem?_set_ne (by omega)]; exact begS_o p S n (by omega)
def xB (x : Engine) : Engine := { x with running := true, stratum := 0, round := 0, stats := ⟨0, 0, 0, 0⟩ }
def bgI (B : Nat) (O : Own) (W : World) (g be : Nat) (p : Pg) (x : Engine) (S sav : List (List Tup)) (f : Nat → Value) (V : World) : Prop := f 0 = .pointer (some ⟨be, 0, none⟩) ∧ ∃ i : Nat, i ≤ p.P.length ∧ f 3 = .int .i64 (i : Int) ∧ Hid (∃ O', Fr (isE g) O W O' V ∧ EAt B O' V g be p x (begS p S i) (begV p S sav i))
theorem build80 (w : World) : (buildOp 80 #[]).run Try.prog w = .ok (.value (.agg (GStats.enc ⟨0, 0, 0, 0⟩).toArray)) w := by kernel_rfl
attribute [local go_sem] build80
attribute [local go_sem ↓] execOp_build
set_option maxRecDepth 100000 in
theorem frame64 (f : Nat → Value) : frameN 64 f = #[f 0, f 1, f 2, f 3, f 4, f 5, f 6, f 7, f 8, f 9, f 10, f 11, f 12, f 13, f 14, f 15, f 16, f 17, f 18, f 19, f 20, f 21, f 22, f 23, f 24, f 25, f 26, f 27, f 28, f 29, f 30, f 31, f 32, f 33, f 34, f 35, f 36, f 37, f 38, f 39, f 40, f 41, f 42, f 43, f 44, f 45, f 46, f 47, f 48, f 49, f 50, f 51, f 52, f 53, f 54, f 55, f 56, f 57, f 58, f 59, f 60, f 61, f 62, f 63] := by kernel_rfl
set_option maxRecDepth 40000 in
set_option maxHeartbeats 8000000 in
theorem begin_any (B : Nat) (O : Own) (W : World) (g be : Nat) (p : Pg) (x : Engine) (S sav : List (List Tup)) (hE : EAt B O W g be p x S sav) (hok : PgOk p) (hl : S.length = 3 * p.P.length) (hS : SOk S) :
    Calls Try.prog 18 #[.pointer (some ⟨be, 0, none⟩)] W fun e W' => if x.running then e = .returned (.int .i64 9) ∧ W' = W else e = .returned (.int .i64 0) ∧ EOut B O W g be p (xB x) (begS p S p.P.length) (begV p S sav p.P.length) W' := by
  obtain ⟨Q, hQ⟩ : ∃ Q, Q = (fun e W' => if x.running then e = .returned (.int .i64 9) ∧ W' = W else e = .returned (.int .i64 0) ∧ EOut B O W g be p (xB x) (begS p S p.P.length) (begV p S sav p.P.length) W' : Ending → World → Prop) := ⟨_, rfl⟩
  rw [← hQ]
  have HQ := hid_of hQ
  have h64 := hok.nP
  obtain ⟨bst, hcell, hfre, hxst, _⟩ := eat_st hE
  have hlen := (eat_svl hE).1
  have hprl := (eat_prg hE).1.1
  obtain ⟨X, hX⟩ : ∃ X, X = x.enc := ⟨_, rfl⟩
  rw [← hX] at hcell
  obtain ⟨xl, x0, _, _, x3, _, x5, _, _, x8, _, _, _, _⟩ := eng_cells hX
  rw [hxst] at x3
  rw [hprl] at x0
  rw [hlen] at x8
  have HX := hid_of hX
  have HXS := hid_of hxst
  have HL := hid_of hl
  have HS := hid_of hS
  have HI0 : Hid (∃ O', Fr (isE g) O W O' W ∧ EAt B O' W g be p x (begS p S 0) (begV p S sav 0)) := ⟨O, Fr.refl _ _ _, hE⟩
  clear hE hQ hok hX hxst hl hlen hprl hS
  go_enter Try.func18, Try.ntmps18
  by_cases hrun : x.running = true
  · rw [hrun] at x5
    have HP : Hid (Q (.returned (.int .i64 9)) W) := by
      show Q _ _
      rw [HQ.out]
      show if _ then _ else _
      rw [if_pos hrun]
      exact ⟨rfl, rfl⟩
    clear HI0
    go_wp2_with fail
    try go_ret
    exact HP.out
  have hrun' : x.running = false := by simpa using hrun
  rw [hrun'] at x5
  go_upto_region 4 with fail
  refine wp_loop_f 64 (bgI B O W g be p x S sav) (fun f _ => p.P.length - (intOf (f 3)).toNat) rfl ⟨rfl, 0, by omega, rfl, HI0⟩ ?_
  clear HI0 hcell hfre
  intro f V hrel
  obtain ⟨f0, i, hi, f3, HI⟩ := hrel
  have H3 := hid_of f3
  rw [frame64, f0, f3]
  clear f0 f3
  obtain ⟨O1, hFr, hEA⟩ := HI.out
  obtain ⟨hcell, hfre, hsat, _, _⟩ := eat_bst hEA HXS.out
  rw [← HX.out] at hcell
  by_cases hin : i < p.P.length
  · have hin' : (i : Int) < (p.P.length : Int) := by omega
    obtain ⟨bP, CP, hPa, hCP, hPl, hPb, _⟩ := pred_base (eat_prg hEA).1.uncore hin
    rw [hPa] at x0
    have i0 : (0 : Int) ≤ (i : Int) := by omega
    have i2 : ((i : Int)).toNat = i := by omega
    have i3 : i * 3 + 1 < CP.length := by omega
    by_cases hb : basP p i = true
    · rw [hb] at hPb
      have hst : begS p S (i + 1) = begS p S i := if_pos hb
      have hsv : begV p S sav (i + 1) = begV p S sav i := if_pos hb
      have HI' : Hid (∃ O', Fr (isE g) O W O' V ∧ EAt B O' V g be p x (begS p S (i + 1)) (begV p S sav (i + 1))) := by
        rw [hst, hsv]; exact ⟨O1, hFr, hEA⟩
      clear hFr hEA HI hst hsv hPa hsat
      go_wp2_with fail
      refine ⟨rfl, rfl, ⟨rfl, i + 1, by omega, ?_, HI'⟩, ?_⟩
      · show Value.int .i64 _ = _
        go_num
      · show p.P.length - (intOf (Value.int .i64 _)).toNat < p.P.length - (intOf (f 3)).toNat
        rw [H3.out]
        simp [intOf]; omega
    have hb' : basP p i = false := by simpa using hb
    rw [hb'] at hPb
    have hst : begS p S (i + 1) = (begS p S i).set (3 * i) [] := if_neg hb
    have hsv : begV p S sav (i + 1) = (begV p S sav i).set i (rowsAt S (3 * i)) := if_neg hb
    obtain ⟨L, hL⟩ : ∃ L, L = rowsAt S (3 * i) := ⟨_, rfl⟩
    rw [← hL] at hsv
    have h512 : L.length ≤ 512 := by rw [hL]; exact (HS.out.at (3 * i)).1
    have hlS := HL.out
    have hbl := begS_len p S i
    have hSi : (begS p S i)[3 * i]? = some L := by
      rw [begS_o p S i (Nat.le_refl _), hL]; unfold rowsAt
      rw [List.getD_eq_getElem?_getD, List.getElem?_eq_getElem (by omega)]; rfl
    have HST := hid_of hst
    have HSV := hid_of hsv
    have HSI := hid_of hSi
    have hfx := full_any V.drew i (by omega)
    have hls := list_any B O1 V.drew g bst _ (hsat.ext (extd _)) (3 * i) L hSi h512
    obtain ⟨bs, Cs, d, L', hsa, hCs, hCf, hil, hnb, hbs, hOs, _, _, _, _⟩ := eat_sav hEA hin
    rw [hsa] at x8
    have HEA := hid_of hEA
    have HFR := hid_of hFr
    have HLS := hid_of hls
    have HSA := hid_of hsa
    have HBS := hid_of hbs
    clear hst hsv hL hlS hbl hSi HI hFr hEA hls hsat hPa hsa hOs hbs
    go_upto_region 7 with fail
    refine wp_region_held_drew (S := fun W' => blk W' be = some X) (by kernel_rfl) hcell (fun hHeld => ?_)
    refine wpAnyH_take (i := 0) (oi := ⟨_, _, _, _, _, _⟩) (v := ?_) rfl (by kernel_rfl) (by kernel_rfl) (by kernel_rfl) (fun _ _ _ h => h) (Or.inl ⟨by rfl, ?_⟩) (by assumption) ?_
    rotate_left 1
    · intro W' hSw
      go_simp
      try with_reducible rfl
    try simp only [Act.put, List.setIfInBounds_toArray, List.set_cons_zero, List.set_cons_succ]
    refine wpAnyH_take (i := 1) (oi := ⟨_, _, _, _, _, _⟩) (v := ?_) rfl (by kernel_rfl) (by kernel_rfl) (by kernel_rfl) (fun _ _ _ h => h) (Or.inl ⟨by rfl, ?_⟩) (by assumption) ?_
    rotate_left 1
    · intro W' hSw
      go_simp
      try with_reducible rfl
    try simp only [Act.put, List.setIfInBounds_toArray, List.set_cons_zero, List.set_cons_succ]
    refine wpAnyH_take (i := 2) (oi := ⟨_, _, _, _, _, _⟩) (v := ?_) rfl (by kernel_rfl) (by kernel_rfl) (by kernel_rfl) (fun _ _ _ h => h) (Or.inl ⟨by rfl, ?_⟩) (by assumption) ?_
    rotate_left 1
    · intro W' hSw
      go_simp
      try with_reducible rfl
    try simp only [Act.put, List.setIfInBounds_toArray, List.set_cons_zero, List.set_cons_succ]
    refine wpAnyH_take (i := 3) (oi := ⟨_, _, _, _, _, _⟩) (v := ?_) rfl (by kernel_rfl) (by kernel_rfl) (by kernel_rfl) (fun _ _ _ h => h) (Or.inl ⟨by rfl, ?_⟩) (by assumption) ?_
    rotate_left 1
    · intro W' hSw
      go_simp
      try with_reducible rfl
    try simp only [Act.put, List.setIfInBounds_toArray, List.set_cons_zero, List.set_cons_succ]
    refine wpAnyH_take (i := 4) (oi := ⟨_, _, _, _, _, _⟩) (v := ?_) rfl (by kernel_rfl) (by kernel_rfl) (by kernel_rfl) (fun _ _ _ h => h) (Or.inl ⟨by rfl, ?_⟩) (by assumption) ?_
    rotate_left 1
    · intro W' hSw
      go_simp
      try with_reducible rfl
    try simp only [Act.put, List.setIfInBounds_toArray, List.set_cons_zero, List.set_cons_succ]
    refine wpAnyH_take (i := 5) (oi := ⟨_, _, _, _, _, _⟩) (v := ?_) rfl (by kernel_rfl) (by kernel_rfl) (by kernel_rfl) (fun _ _ _ h => h) (Or.inl ⟨by rfl, ?_⟩) (by assumption) ?_
    rotate_left 1
    · intro W' hSw
      go_simp
      try with_reducible rfl
    try simp only [Act.put, List.setIfInBounds_toArray, List.set_cons_zero, List.set_cons_succ]
    refine wpAnyH_take (i := 6) (oi := ⟨_, _, _, _, _, _⟩) (v := ?_) rfl (by kernel_rfl) (by kernel_rfl) (by kernel_rfl) (fun _ _ _ h => h) (Or.inl ⟨by rfl, ?_⟩) (by assumption) ?_
    rotate_left 1
    · intro W' hSw
      go_simp
      try with_reducible rfl
    try simp only [Act.put, List.setIfInBounds_toArray, List.set_cons_zero, List.set_cons_succ]
    refine wpAnyH_take (i := 7) (oi := ⟨_, _, _, _, _, _⟩) (v := ?_) rfl (by kernel_rfl) (by kernel_rfl) (by kernel_rfl) (fun _ _ _ h => h) (Or.inl ⟨by rfl, ?_⟩) (by assumption) ?_
    rotate_left 1
    · intro W' hSw
      go_simp
      try with_reducible rfl
    try simp only [Act.put, List.setIfInBounds_toArray, List.set_cons_zero, List.set_cons_succ]
    refine wpAnyH_take (i := 8) (oi := ⟨_, _, _, _, _, _⟩) (v := ?_) rfl (by kernel_rfl) (by kernel_rfl) (by kernel_rfl) (fun _ _ _ h => h) (Or.inl ⟨by rfl, ?_⟩) (by assumption) ?_
    rotate_left 1
    · intro W' hSw
      go_simp
      try with_reducible rfl
    try simp only [Act.put, List.setIfInBounds_toArray, List.set_cons_zero, List.set_cons_succ]
    refine wpAnyH_take (i := 9) (oi := ⟨_, _, _, _, _, _⟩) (v := ?_) rfl (by kernel_rfl) (by kernel_rfl) (by kernel_rfl) (fun _ _ _ h => h) (Or.inl ⟨by rfl, ?_⟩) (by assumption) ?_
    rotate_left 1
    · intro W' hSw
      go_simp
      try with_reducible rfl
    try simp only [Act.put, List.setIfInBounds_toArray, List.set_cons_zero, List.set_cons_succ]
    refine wpAnyH_ready (rs := [10]) (by kernel_rfl) (by simp) ?_
    refine AllReadyH.cons (o := ⟨_, _, _, _, _, _⟩) rfl (fun K' hK => ?_) AllReadyH.nil
    go_simp
    refine hfx.mono ?_
    rintro en V9 ⟨rfl, rfl⟩
    dsimp only
    refine hK.out _ _ hcell (fun hHeld => ?_)
    clear hK K'
    try simp only [Act.put, List.setIfInBounds_toArray, List.set_cons_zero, List.set_cons_succ]
    refine wpAnyH_ready (rs := [11]) (by kernel_rfl) (by simp) ?_
    refine AllReadyH.cons (o := ⟨_, _, _, _, _, _⟩) rfl (fun K' hK => ?_) AllReadyH.nil
    go_simp
    refine HLS.out.mono ?_
    rintro en V1 ⟨a, c, rfl, ho1⟩
    dsimp only
    have hil1 : i + 1 ≤ Cs.length := by omega
    have hcell1 : blk V1 be = some X := (ho1.2.1.blk (blk_lt hcell)).trans hcell
    have hCs1 : blk V1 bs = some Cs := (ho1.2.1.blk (blk_lt hCs)).trans hCs
    have hCf1 : free V1 bs = true := (free_of_heap (ho1.2.1.block bs HBS.out)).trans hCf
    obtain ⟨O2, hO2⟩ : ∃ O2, O2 = lab O1 V.drew.heap.size .no := ⟨_, rfl⟩
    have hE1 : EAt B O2 V1 g be p x (begS p S i) (begV p S sav i) := by rw [hO2]; exact (HEA.out.ext (extd V)).new ho1.2.1 _
    have hF1 : Fr (isE g) O1 V.drew O2 V1 := by rw [hO2]; exact fr_lab (Fr.refl _ _ _) ho1.2.1
    have hR1 : Rw tpl 4 (core O2 V1) a L.length L := by rw [hO2]; exact outs_core ho1
    obtain ⟨bs2, Cs2, d2, L2, hsa2, hCs2, _, _, _, _, _, _, _, _, hput2⟩ := eat_sav hE1 hin
    rw [HSA.out] at hsa2
    injection hsa2 with hsa2
    injection hsa2 with hsa2
    subst hsa2
    rw [hCs1] at hCs2
    injection hCs2 with hCs2
    subst hCs2
    obtain ⟨hE2, hF2⟩ := hput2 a L.length c L hR1
    have HE2 := hid_of hE2
    have HF2 : Hid (Fr (isE g) O W O2 (put V1 bs (splice Cs i [.slice a L.length c]))) := HFR.out.drew.trans (hF1.trans hF2)
    have hcell2 : blk (put V1 bs (splice Cs i [.slice a L.length c])) be = some X := by rw [blk_put, if_neg hnb]; exact hcell1
    clear ho1 hO2 hE1 hF1 hR1 hput2 hE2 hF2 HEA HFR
    refine hK.out _ _ hcell1 (fun hHeld => ?_)
    clear hK K'
    try simp only [Act.put, List.setIfInBounds_toArray, List.set_cons_zero, List.set_cons_succ]
    refine wpAnyH_take (i := 12) (oi := ⟨_, _, _, _, _, _⟩) (v := ?_) rfl (by kernel_rfl) (by kernel_rfl) (by kernel_rfl) (fun _ _ _ h => h) (Or.inl ⟨by rfl, ?_⟩) (by assumption) ?_
    rotate_left 1
    · intro W' hSw
      go_simp
      try with_reducible rfl
    try simp only [Act.put, List.setIfInBounds_toArray, List.set_cons_zero, List.set_cons_succ]
    refine wpAnyH_take (i := 13) (oi := ⟨_, _, _, _, _, _⟩) (v := ?_) rfl (by kernel_rfl) (by kernel_rfl) (by kernel_rfl) (fun _ _ _ h => h) (Or.inl ⟨by rfl, ?_⟩) (by assumption) ?_
    rotate_left 1
    · intro W' hSw
      go_simp
      try with_reducible rfl
    try simp only [Act.put, List.setIfInBounds_toArray, List.set_cons_zero, List.set_cons_succ]
    refine wpAnyH_take (i := 14) (oi := ⟨_, _, _, _, _, _⟩) (v := ?_) rfl (by kernel_rfl) (by kernel_rfl) (by kernel_rfl) (fun _ _ _ h => h) (Or.inl ⟨by rfl, ?_⟩) (by assumption) ?_
    rotate_left 1
    · intro W' hSw
      go_simp
      try with_reducible rfl
    try simp only [Act.put, List.setIfInBounds_toArray, List.set_cons_zero, List.set_cons_succ]
    refine wpAnyH_take (i := 15) (oi := ⟨_, _, _, _, _, _⟩) (v := ?_) rfl (by kernel_rfl) (by kernel_rfl) (by kernel_rfl) (fun _ _ _ h => h) (Or.inl ⟨by rfl, ?_⟩) (by assumption) ?_
    rotate_left 1
    · intro W' hSw
      go_simp
      try with_reducible rfl
    try simp only [Act.put, List.setIfInBounds_toArray, List.set_cons_zero, List.set_cons_succ]
    refine wpAnyH_ready (rs := [16]) (by kernel_rfl) (by simp) ?_
    refine AllReadyH.cons (o := ⟨_, _, _, _, _, _⟩) rfl (fun K' hK => ?_) AllReadyH.nil
    go_simp
    refine hK.out _ _ hcell2 (fun hHeld => ?_)
    clear hK K'
    try simp only [Act.put, List.setIfInBounds_toArray, List.set_cons_zero, List.set_cons_succ]
    refine wpAnyH_done (by kernel_rfl) ?_ _
    obtain ⟨V2, hV2⟩ : ∃ V2, V2 = put V1 bs (splice Cs i [.slice a L.length c]) := ⟨_, rfl⟩
    rw [← hV2] at HE2 HF2 hHeld hcell2 ⊢
    clear hV2 hcell1 hCs1 hCf1
    clear hHeld HLS hfx
    have hcx := full_any V2.drew i (by omega)
    obtain ⟨hcell', _, hsat, _, hput⟩ := eat_bst (HE2.out.ext (extd V2)) HXS.out
    rw [← HX.out] at hcell'
    have hcl := clear_any B O2 V2.drew g bst _ hsat (3 * i) L HSI.out
    have HPUT := hid_of hput
    have HCL := hid_of hcl
    clear hput hsat hcl hcell hCs hCf hCP
    go_upto_region 8 with fail
    refine wp_region_held_drew (S := fun W' => blk W' be = some X) (by kernel_rfl) hcell' (fun hHeld => ?_)
    refine wpAnyH_take (i := 0) (oi := ⟨_, _, _, _, _, _⟩) (v := ?_) rfl (by kernel_rfl) (by kernel_rfl) (by kernel_rfl) (fun _ _ _ h => h) (Or.inl ⟨by rfl, ?_⟩) (by assumption) ?_
    rotate_left 1
    · intro W' hSw
      go_simp
      try with_reducible rfl
    try simp only [Act.put, List.setIfInBounds_toArray, List.set_cons_zero, List.set_cons_succ]
    refine wpAnyH_take (i := 1) (oi := ⟨_, _, _, _, _, _⟩) (v := ?_) rfl (by kernel_rfl) (by kernel_rfl) (by kernel_rfl) (fun _ _ _ h => h) (Or.inl ⟨by rfl, ?_⟩) (by assumption) ?_
    rotate_left 1
    · intro W' hSw
      go_simp
      try with_reducible rfl
    try simp only [Act.put, List.setIfInBounds_toArray, List.set_cons_zero, List.set_cons_succ]
    refine wpAnyH_take (i := 2) (oi := ⟨_, _, _, _, _, _⟩) (v := ?_) rfl (by kernel_rfl) (by kernel_rfl) (by kernel_rfl) (fun _ _ _ h => h) (Or.inl ⟨by rfl, ?_⟩) (by assumption) ?_
    rotate_left 1
    · intro W' hSw
      go_simp
      try with_reducible rfl
    try simp only [Act.put, List.setIfInBounds_toArray, List.set_cons_zero, List.set_cons_succ]
    refine wpAnyH_take (i := 3) (oi := ⟨_, _, _, _, _, _⟩) (v := ?_) rfl (by kernel_rfl) (by kernel_rfl) (by kernel_rfl) (fun _ _ _ h => h) (Or.inl ⟨by rfl, ?_⟩) (by assumption) ?_
    rotate_left 1
    · intro W' hSw
      go_simp
      try with_reducible rfl
    try simp only [Act.put, List.setIfInBounds_toArray, List.set_cons_zero, List.set_cons_succ]
    refine wpAnyH_take (i := 4) (oi := ⟨_, _, _, _, _, _⟩) (v := ?_) rfl (by kernel_rfl) (by kernel_rfl) (by kernel_rfl) (fun _ _ _ h => h) (Or.inl ⟨by rfl, ?_⟩) (by assumption) ?_
    rotate_left 1
    · intro W' hSw
      go_simp
      try with_reducible rfl
    try simp only [Act.put, List.setIfInBounds_toArray, List.set_cons_zero, List.set_cons_succ]
    refine wpAnyH_ready (rs := [5]) (by kernel_rfl) (by simp) ?_
    refine AllReadyH.cons (o := ⟨_, _, _, _, _, _⟩) rfl (fun K' hK => ?_) AllReadyH.nil
    go_simp
    refine hcx.mono ?_
    rintro en V9 ⟨rfl, rfl⟩
    dsimp only
    refine hK.out _ _ hcell' (fun hHeld => ?_)
    clear hK K'
    try simp only [Act.put, List.setIfInBounds_toArray, List.set_cons_zero, List.set_cons_succ]
    refine wpAnyH_ready (rs := [6]) (by kernel_rfl) (by simp) ?_
    refine AllReadyH.cons (o := ⟨_, _, _, _, _, _⟩) rfl (fun K' hK => ?_) AllReadyH.nil
    go_simp
    refine HCL.out.mono ?_
    rintro en V3 ⟨rfl, O3, hf3, hs3⟩
    dsimp only
    refine hK.out _ _ (by have h9 := (eat_bst (HPUT.out _ O3 V3 hf3 hs3) HXS.out).1; rw [← HX.out] at h9; exact h9) (fun hHeld => ?_)
    clear hK K'
    try simp only [Act.put, List.setIfInBounds_toArray, List.set_cons_zero, List.set_cons_succ]
    refine wpAnyH_done (by kernel_rfl) ?_ _
    have HE3 : Hid (EAt B O3 V3 g be p x ((begS p S i).set (3 * i) []) ((begV p S sav i).set i L)) := HPUT.out _ O3 V3 hf3 hs3
    have hff3 : Fr (isE g) O2 V2 O3 V3 := (Fr.of_extends (extd V2)).trans (hf3.mono (fun l h => .inl h))
    have HI' : Hid (∃ O', Fr (isE g) O W O' V3 ∧ EAt B O' V3 g be p x (begS p S (i + 1)) (begV p S sav (i + 1))) := by
      rw [HST.out, HSV.out]
      exact ⟨O3, HF2.out.trans hff3, HE3.out⟩
    clear hff3 hf3 hs3 HF2 HE2 HPUT HCL hcx hHeld hcell' HE3
    go_wp2_with fail
    refine ⟨rfl, rfl, ⟨rfl, i + 1, by omega, ?_, HI'⟩, ?_⟩
    · show Value.int .i64 _ = _
      go_num
    · show p.P.length - (intOf (Value.int .i64 _)).toNat < p.P.length - (intOf (f 3)).toNat
      rw [H3.out]
      simp [intOf]; omega
  · obtain rfl : i = p.P.length := by omega
    have hin' : ¬ ((p.P.length : Int) < (p.P.length : Int)) := by omega
    obtain ⟨hE', hF'⟩ := hEA.cells (xB x) rfl rfl rfl rfl
    have hs : splice (splice (splice (splice X 5 [.bool true]) 6 [.int .i64 0]) 7 [.int .i64 0]) 9 (GStats.enc ⟨0, 0, 0, 0⟩) = Engine.enc (xB x) := by rw [HX.out, Engine.running_set, Engine.stratum_set, Engine.round_set, Engine.stats_set]; rfl
    have HP : Hid (Q (.returned (.int .i64 0)) (put V be (xB x).enc)) := by
      show Q _ _
      rw [HQ.out]
      show if _ then _ else _
      rw [if_neg hrun]
      exact ⟨rfl, O1, hFr.trans hF', hE'⟩
    have HSS := hid_of hs
    have hl1 : (splice X 5 [.bool true]).length = 13 := by rw [length_splice1 (by omega)]; exact xl
    have hl2 : (splice (splice X 5 [.bool true]) 6 [.int .i64 0]).length = 13 := by rw [length_splice1 (by omega)]; exact hl1
    have hl3 : (splice (splice (splice X 5 [.bool true]) 6 [.int .i64 0]) 7 [.int .i64 0]).length = 13 := by rw [length_splice1 (by omega)]; exact hl2
    clear hE' hF' hEA hFr HI hs
    go_upto_region 10 with fail
    refine wp_world (fun V' => blk V' be = some (splice (splice (splice X 5 [.bool true]) 6 [.int .i64 0]) 7 [.int .i64 0]) ∧ free V' be = true ∧ V' = put V be (splice (splice (splice X 5 [.bool true]) 6 [.int .i64 0]) 7 [.int .i64 0])) ⟨?_, ?_, ?_⟩ ?_
    · rw [blk_put, if_pos rfl, hcell]; rfl
    · rw [free_put]; exact hfre
    · rfl
    rintro V' ⟨hc', hf', hV'⟩
    have HV := hid_of hV'
    obtain ⟨Y, hY⟩ : ∃ Y, Y = splice (splice (splice X 5 [.bool true]) 6 [.int .i64 0]) 7 [.int .i64 0] := ⟨_, rfl⟩
    rw [← hY] at hc' hl3
    have HY := hid_of hY
    clear hV' hY hl1 hl2 hcell hfre
    go_upto_region 11 with fail
    refine wp_world (fun V2 => V2 = put V be (xB x).enc) ?_ ?_
    · rw [HV.out, put_put, ← HSS.out, HY.out]
    rintro V2 rfl
    go_wp2_with fail
    try go_ret
    exact HP.out
set_option maxRecDepth 40000 in
theorem cancel_any (B : Nat) (O : Own) (W : World) (g be : Nat) (p : Pg) (x : Engine) (S sav : List (List Tup)) (hE : EAt B O W g be p x S sav) (hok : PgOk p) (hl : S.length = 3 * p.P.length) (hsv : x.running = true → ∀ i, i < p.P.length → basP p i = false → (rowsAt sav i).Nodup ∧ (rowsAt sav i).length ≤ 512) :
    Calls Try.prog 34 #[.pointer (some ⟨be, 0, none⟩)] W fun e W' => if x.running then e = .returned (.int .i64 0) ∧ ∃ sav', EOut B O W g be p { x with running := false, stratum := 0 } (resS p S sav p.P.length) sav' W' else e = .returned (.int .i64 10) ∧ W' = W := by
  obtain ⟨Q, hQ⟩ : ∃ Q, Q = (fun e W' => if x.running then e = .returned (.int .i64 0) ∧ ∃ sav', EOut B O W g be p { x with running := false, stratum := 0 } (resS p S sav p.P.length) sav' W' else e = .returned (.int .i64 10) ∧ W' = W : Ending → World → Prop) := ⟨_, rfl⟩
  rw [← hQ]
  have HQ := hid_of hQ
  obtain ⟨bst, hcell, hfre, hxst, _⟩ := eat_st hE
  obtain ⟨X, hX⟩ : ∃ X, X = x.enc := ⟨_, rfl⟩
  rw [← hX] at hcell
  obtain ⟨xl, _, _, _, _, _, x5, _, _, _, _, _, _, _⟩ := eng_cells hX
  clear hQ hX hxst
  by_cases hrun : x.running = true
  · have hre := restore_any B O W g be p x S sav hE hok hl (hsv hrun)
    rw [hrun] at x5
    have HRE := hid_of hre
    clear hre hE hok hl hsv
    go_enter Try.func34, Try.ntmps34
    go_wp2_with fail
    refine HRE.out.mono ?_
    rintro en V ⟨rfl, hres⟩
    have HP : Hid (Q (.returned (.int .i64 0)) V) := by
      show Q _ _
      rw [HQ.out]
      show if _ then _ else _
      rw [if_pos hrun]
      exact ⟨rfl, hres⟩
    clear hres
    dsimp only
    go_wp2_with fail
    try go_ret
    exact HP.out
  · have hrun' : x.running = false := by simpa using hrun
    rw [hrun'] at x5
    have HP : Hid (Q (.returned (.int .i64 10)) W) := by
      show Q _ _
      rw [HQ.out]
      show if _ then _ else _
      rw [if_neg hrun]
      exact ⟨rfl, rfl⟩
    clear hE hok hl hsv
    go_enter Try.func34, Try.ntmps34
    go_wp2_with fail
    try go_ret
    exact HP.out
end Go.Proofs.Qxb6500788a
