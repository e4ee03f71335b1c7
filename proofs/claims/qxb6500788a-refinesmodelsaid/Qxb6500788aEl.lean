import Derived.Test.Qxb6500788aEk
import Derived.StillTailTactics
import Derived.Deep.QuietTactic
import Derived.BigQuiet
import Derived.Deep.RegionHeld
import Derived.Deep.CutRange
import Derived.Laws.ResultCell
import Derived.Laws.Rows
import Derived.DeepKeys
import Derived.DataBytes
import Derived.Laws.StructEq
import Derived.Laws.AppendOwn
import Derived.Laws.MakeOwn
set_option linter.unusedSimpArgs false
set_option linter.unusedVariables false
namespace Go.Proofs.Qxb6500788a
open Go.RowKit Go.Blk
attribute [local go_sem ↓] execOp_load execOp_store execOp_alloc
attribute [local go_sem] Try.ld24 Try.st24 Try.ld25 Try.st25 Try.ld3 Try.st3 Try.ld30 Try.st30 Try.ld36 Try.st36 Try.ld4 Try.st4 Try.ld41 Try.st41 Try.ld50 Try.st50 Try.ld40 Try.st40 Try.ld42 Try.st42 Try.ld89 Try.st89 Try.ld91 Try.st91 Try.ld56 Try.st56 Try.ld97 Try.st97 Try.ld98 Try.st98 Try.ld101 Try.st101 Try.ld104 Try.st104 Try.ld57 Try.st57 Try.ld130 Try.st130 Try.ld2 Try.st2 Try.ld5 Try.st5 Try.ld9 Try.st9 Try.ld12 Try.st12 Try.ld21 Try.st21 Try.ld22 Try.st22 Try.ld29 Try.st29 Try.ld33 Try.st33 Try.ld59 Try.st59 Try.ld62 Try.st62 Try.ld69 Try.st69 Try.ld94 Try.st94 Try.ld96 Try.st96 Try.ld129 Try.st129 Try.ld158 Try.st158 Try.ld162 Try.st162 Try.ld47 Try.st47 Try.ld44 Try.st44 Try.ld137 Try.st137 Try.ld145 Try.st145 Try.ld43 Try.st43 Try.ld27 Try.st27 Try.ld38 Try.st38 Try.ld46 Try.st46 Try.ld49 Try.st49 Try.ld52 Try.st52 Try.ld54 Try.st54 Try.ld61 Try.st61 Try.ld80 Try.st80 Try.ld87 Try.st87 Try.ld93 Try.st93 Try.ld100 Try.st100 Try.ld103 Try.st103 Try.ld106 Try.st106 Try.ld109 Try.st109 Try.ld132 Try.st132 Try.ld147 Try.st147 Try.al47 Try.al44 Try.al137 Try.al145 Try.al43 Try.al27 Try.al38 Try.al46 Try.al49 Try.al52 Try.al54 Try.al61 Try.al80 Try.al87 Try.al93 Try.al100 Try.al103 Try.al106 Try.al109 Try.al132 Try.al147
attribute [local go_sem] GProgram.length_enc GProgram.ok_enc GProgram.all_get GProgram.all_set GProgram.preds_get GProgram.preds_set GProgram.rules_get GProgram.rules_set GProgram.strata_get GProgram.strata_set Answer.length_enc Answer.ok_enc Answer.all_get Answer.all_set Answer.code_get Answer.code_set Answer.n_get Answer.n_set Answer.rows_get Answer.rows_set Term.length_enc Term.ok_enc Term.all_get Term.all_set Term.var_get Term.var_set Term.n_get Term.n_set Atom.length_enc Atom.ok_enc Atom.all_get Atom.all_set Atom.pred_get Atom.pred_set Atom.args_get Atom.args_set GRule.length_enc GRule.ok_enc GRule.all_get GRule.all_set GRule.head_get GRule.head_set GRule.body_get GRule.body_set GRule.head_pred_get GRule.head_pred_set GRule.head_args_get GRule.head_args_set GOp.length_enc GOp.ok_enc GOp.all_get GOp.all_set GOp.kind_get GOp.kind_set GOp.pred_get GOp.pred_set GOp.t_get GOp.t_set GOp.n_get GOp.n_set GOp.base_get GOp.base_set GOp.rule_get GOp.rule_set GOp.rule_head_get GOp.rule_head_set GOp.rule_body_get GOp.rule_body_set GOp.rule_head_pred_get GOp.rule_head_pred_set GOp.rule_head_args_get GOp.rule_head_args_set PredInfo.length_enc PredInfo.ok_enc PredInfo.all_get PredInfo.all_set PredInfo.arity_get PredInfo.arity_set PredInfo.base_get PredInfo.base_set PredInfo.stratum_get PredInfo.stratum_set GStats.length_enc GStats.ok_enc GStats.all_get GStats.all_set GStats.rounds_get GStats.rounds_set GStats.fired_get GStats.fired_set GStats.emitted_get GStats.emitted_set GStats.fresh_get GStats.fresh_set Literal.length_enc Literal.ok_enc Literal.all_get Literal.all_set Literal.neg_get Literal.neg_set Literal.atom_get Literal.atom_set Literal.atom_pred_get Literal.atom_pred_set Literal.atom_args_get Literal.atom_args_set Engine.length_enc Engine.ok_enc Engine.all_get Engine.all_set Engine.prog_get Engine.prog_set Engine.st_get Engine.st_set Engine.levels_get Engine.levels_set Engine.running_get Engine.running_set Engine.stratum_get Engine.stratum_set Engine.round_get Engine.round_set Engine.saved_get Engine.saved_set Engine.stats_get Engine.stats_set Engine.prog_preds_get Engine.prog_preds_set Engine.prog_rules_get Engine.prog_rules_set Engine.prog_strata_get Engine.prog_strata_set Engine.stats_rounds_get Engine.stats_rounds_set Engine.stats_fired_get Engine.stats_fired_set Engine.stats_emitted_get Engine.stats_emitted_set Engine.stats_fresh_get Engine.stats_fresh_set Level.length_enc Level.ok_enc Level.all_get Level.all_set Level.heads_get Level.heads_set Level.jobs_get Level.jobs_set Plan.length_enc Plan.ok_enc Plan.all_get Plan.all_set Plan.rule_get Plan.rule_set Plan.delta_get Plan.delta_set Plan.src_get Plan.src_set Job.length_enc Job.ok_enc Job.all_get Job.all_set Job.full_get Job.full_set Job.deltas_get Job.deltas_set Job.full_rule_get Job.full_rule_set Job.full_delta_get Job.full_delta_set Job.full_src_get Job.full_src_set GState.length_enc GState.ok_enc GState.all_get GState.all_set GState.prog_get GState.prog_set GState.base_get GState.base_set GState.shown_get GState.shown_set GState.prog_preds_get GState.prog_preds_set GState.prog_rules_get GState.prog_rules_set GState.prog_strata_get GState.prog_strata_set Store.length_enc Store.ok_enc Store.all_get Store.all_set Store.arity_get Store.arity_set Store.rows_get Store.rows_set Env.length_enc Env.ok_enc Env.all_get Env.all_set Env.val_get Env.val_set Env.set_get Env.set_set
attribute [local go_sem] size_put size_ext blk_put free_put blk_alloc free_alloc blk_drew free_drew blk_ext free_ext lookOr_some putOr_some segAt_some cellAt_some storeIn_some put_put put_alloc_new length_arr ok_arr_u8 ok_arr_u32 ok_arr_u64 ok_arr_i64 ok_arr_sl cellsV_agg cellsV_int cellsV_bool cellsV_string cellsV_pointer cellsV_slice cellsV_sl ok_int ok_bool ok_string ok_pointer ok_slice ok_sl toList_arr seg_arr set_arr nth_splice nth_splice0 seg_splice seg_splice0 splice_splice splice_splice0 length_splice_if
attribute [local go_sem ↓] execOp_box
attribute [local go_sem] box_run nth_arr_u8 put_arr_u8 blk_drewN free_drewN put_drewN blk_raw free_raw
noncomputable def addC (p : Pg) (run : Bool) (S : List (List Tup)) (q : Int) (t : Tup) : Int := if ckF p run q t ≠ 0 then ckF p run q t else insC (rowsAt S (3 * q.toNat)) t
noncomputable def addS (p : Pg) (run : Bool) (S : List (List Tup)) (q : Int) (t : Tup) : List (List Tup) := if ckF p run q t ≠ 0 then S else S.set (3 * q.toNat) (insL (rowsAt S (3 * q.toNat)) t)
set_option maxRecDepth 40000 in
set_option maxHeartbeats 4000000 in
theorem add_any (B : Nat) (O : Own) (W : World) (g be : Nat) (p : Pg) (x : Engine) (S sav : List (List Tup)) (hE : EAt B O W g be p x S sav) (hok : PgOk p) (hl : S.length = 3 * p.P.length) (hS : SOk S) (q : Int) (t : Tup) : Calls Try.prog 21 #[.pointer (some ⟨be, 0, none⟩), .int .i64 q, .agg (arr i64v t).toArray] W fun e W' => e = .returned (.int .i64 (addC p x.running S q t)) ∧ EOut B O W g be p x (addS p x.running S q t) sav W' := by
  obtain ⟨Q, hQ⟩ : ∃ Q, Q = (fun e W' => e = .returned (.int .i64 (addC p x.running S q t)) ∧ EOut B O W g be p x (addS p x.running S q t) sav W' : Ending → World → Prop) := ⟨_, rfl⟩
  rw [← hQ]
  have HQ := hid_of hQ
  have h64 := hok.nP
  have HE := hid_of hE
  have HOK := hid_of hok
  have HL := hid_of hl
  have HS := hid_of hS
  clear hQ hE hok hl hS
  go_enter Try.func21, Try.ntmps21
  go_upto_region 1 with fail
  refine wp_world (fun W0 => blk W0 W.heap.size = some (arr i64v t) ∧ W.Extends W0) ⟨?_, extends_alloc (ext_Ext (Ext.refl _)) _⟩ ?_
  · rw [blk_alloc, if_pos rfl]
  rintro W1 ⟨hb5, hx1⟩
  obtain ⟨b5, e5⟩ : ∃ b5, b5 = W.heap.size := ⟨_, rfl⟩
  rw [← e5] at hb5 ⊢
  have hn5 : W.heap.size ≤ b5 := by omega
  obtain ⟨O1, hO1⟩ : ∃ O1, O1 = lab O W.heap.size .no := ⟨_, rfl⟩
  have hE : EAt B O1 W1 g be p x S sav := by rw [hO1]; exact HE.out.new hx1 _
  have HF1 : Hid (∀ S' V, EOut B O1 W1 g be p x S' sav V → EOut B O W g be p x S' sav V) := by
    intro S' V h
    rw [hO1] at h
    exact eout_lab h hx1
  have HO5 : Hid (O1 b5 = .no) := by show O1 b5 = .no; rw [hO1]; exact lab_ge hn5
  obtain ⟨bst, hcell, hfre, hxst, -⟩ := eat_st hE
  obtain ⟨X, hX⟩ : ∃ X, X = x.enc := ⟨_, rfl⟩
  rw [← hX] at hcell
  obtain ⟨xl, -, -, -, x3, -, x5, x6, -, -, -, -, -, -⟩ := eng_cells hX
  rw [hxst] at x3
  have hcf := checkF_any B O1 W1 g be p x S sav hE HOK.out q t
  have HCF := hid_of hcf
  have HE1 := hid_of hE
  have HX := hid_of hX
  have HXS := hid_of hxst
  clear hE hX hxst hcf hx1 e5 hO1 hn5 x5 x6
  go_wp2_with fail
  refine HCF.out.mono ?_
  rintro en V ⟨rfl, hx2⟩
  have HE2 : Hid (EAt B O1 V g be p x S sav) := HE1.out.ext hx2
  have HF2 : Hid (Fr (isE g) O1 W1 O1 V) := Fr.of_extends hx2
  have hcell2 : blk V be = some X := (hx2.blk (blk_lt hcell)).trans hcell
  have hb52 : blk V b5 = some (arr i64v t) := (hx2.blk (blk_lt hb5)).trans hb5
  clear HCF hx2 hcell hfre hb5
  dsimp only
  by_cases hc0 : ckF p x.running q t = 0
  · have hin : inT p q := Classical.byContradiction fun hn => by
      unfold ckF at hc0
      by_cases hr : x.running = true
      · rw [if_pos hr] at hc0; cases hc0
      · rw [if_neg hr] at hc0
        have h5 : ckT p q t = 5 := by unfold ckT; rw [if_neg hn]
        rw [h5, if_pos (by decide)] at hc0
        cases hc0
    obtain ⟨n, rfl⟩ : ∃ n : Nat, q = (n : Int) := ⟨q.toNat, by have := hin.1; omega⟩
    have hn : n < p.P.length := by have := hin.2; omega
    obtain ⟨L, hL⟩ : ∃ L, L = rowsAt S (3 * n) := ⟨_, rfl⟩
    have hSL : S[3 * n]? = some L := by
      rw [hL]; unfold rowsAt
      have := HL.out
      rw [List.getD_eq_getElem?_getD, List.getElem?_eq_getElem (by omega)]; rfl
    have h512 : L.length ≤ 512 := by rw [hL]; exact (HS.out.at _).1
    have hop := insert_any B O1 V.drew g bst S ((eat_bst HE2.out HXS.out).2.2.1.ext (extd V)) (3 * n) L hSL h512 t
    have HOP := hid_of hop
    have hfx := full_any V.drew n (by omega)
    have HP : Hid (∀ V', SOut B O1 V.drew g bst (S.set (3 * n) (insL L t)) V' → Q (.returned (.int .i64 (insC L t))) V') := by
      intro V' ⟨O3, hf3, hs3⟩
      rw [HQ.out]
      unfold addC addS
      rw [if_neg (fun h => h hc0), if_neg (fun h => h hc0), Int.toNat_natCast, ← hL]
      exact ⟨rfl, HF1.out _ _ ⟨O3, HF2.out.drew.trans (hf3.mono (fun l h => .inl h)), (eat_bst (HE2.out.ext (extd V)) HXS.out).2.2.2.2 _ O3 V' hf3 hs3⟩⟩
    have HK : Hid (∀ V', SOut B O1 V.drew g bst (S.set (3 * n) (insL L t)) V' → blk V' be = some X ∧ blk V' b5 = some (arr i64v t)) := by
      intro V' ⟨O3, hf3, hs3⟩
      refine ⟨by rw [HX.out]; exact (eat_bst ((eat_bst (HE2.out.ext (extd V)) HXS.out).2.2.2.2 _ O3 V' hf3 hs3) HXS.out).1, ?_⟩
      exact hf3.blk (W := V.drew) hb52 (by rw [HO5.out]; rintro ⟨z, e⟩; cases e)
    rw [hc0]
    clear hc0 hin hL hSL hop HE1 HE2 HF2
    go_upto_region 4 with fail
    refine wp_region_held_drew (S := fun W' => blk W' be = some X ∧ blk W' b5 = some (arr i64v t)) (by kernel_rfl) ⟨hcell2, hb52⟩ (fun hHeld => ?_)
    refine wpAnyH_take (i := 0) (oi := ⟨_, _, _, _, _, _⟩) (v := ?_) rfl (by kernel_rfl) (by kernel_rfl) (by kernel_rfl) (fun _ _ _ h => h) (Or.inl ⟨by rfl, ?_⟩) (by assumption) ?_
    rotate_left 1
    · intro W' hSw
      obtain ⟨hS1, hS2⟩ := hSw
      go_simp
      try with_reducible rfl
    try simp only [Act.put, List.setIfInBounds_toArray, List.set_cons_zero, List.set_cons_succ]
    refine wpAnyH_take (i := 1) (oi := ⟨_, _, _, _, _, _⟩) (v := ?_) rfl (by kernel_rfl) (by kernel_rfl) (by kernel_rfl) (fun _ _ _ h => h) (Or.inl ⟨by rfl, ?_⟩) (by assumption) ?_
    rotate_left 1
    · intro W' hSw
      obtain ⟨hS1, hS2⟩ := hSw
      go_simp
      try with_reducible rfl
    try simp only [Act.put, List.setIfInBounds_toArray, List.set_cons_zero, List.set_cons_succ]
    refine wpAnyH_take (i := 2) (oi := ⟨_, _, _, _, _, _⟩) (v := ?_) rfl (by kernel_rfl) (by kernel_rfl) (by kernel_rfl) (fun _ _ _ h => h) (Or.inl ⟨by rfl, ?_⟩) (by assumption) ?_
    rotate_left 1
    · intro W' hSw
      obtain ⟨hS1, hS2⟩ := hSw
      go_simp
      try with_reducible rfl
    try simp only [Act.put, List.setIfInBounds_toArray, List.set_cons_zero, List.set_cons_succ]
    refine wpAnyH_take (i := 3) (oi := ⟨_, _, _, _, _, _⟩) (v := ?_) rfl (by kernel_rfl) (by kernel_rfl) (by kernel_rfl) (fun _ _ _ h => h) (Or.inl ⟨by rfl, ?_⟩) (by assumption) ?_
    rotate_left 1
    · intro W' hSw
      obtain ⟨hS1, hS2⟩ := hSw
      go_simp
      try with_reducible rfl
    try simp only [Act.put, List.setIfInBounds_toArray, List.set_cons_zero, List.set_cons_succ]
    refine wpAnyH_take (i := 4) (oi := ⟨_, _, _, _, _, _⟩) (v := ?_) rfl (by kernel_rfl) (by kernel_rfl) (by kernel_rfl) (fun _ _ _ h => h) (Or.inl ⟨by rfl, ?_⟩) (by assumption) ?_
    rotate_left 1
    · intro W' hSw
      obtain ⟨hS1, hS2⟩ := hSw
      go_simp
      try with_reducible rfl
    try simp only [Act.put, List.setIfInBounds_toArray, List.set_cons_zero, List.set_cons_succ]
    refine wpAnyH_take (i := 6) (oi := ⟨_, _, _, _, _, _⟩) (v := ?_) rfl (by kernel_rfl) (by kernel_rfl) (by kernel_rfl) (fun _ _ _ h => h) (Or.inl ⟨by rfl, ?_⟩) (by assumption) ?_
    rotate_left 1
    · intro W' hSw
      obtain ⟨hS1, hS2⟩ := hSw
      go_simp
      try with_reducible rfl
    try simp only [Act.put, List.setIfInBounds_toArray, List.set_cons_zero, List.set_cons_succ]
    refine wpAnyH_ready (rs := [5]) (by kernel_rfl) (by simp) ?_
    refine AllReadyH.cons (o := ⟨_, _, _, _, _, _⟩) rfl (fun K' hK => ?_) AllReadyH.nil
    go_simp
    refine hfx.mono ?_
    rintro en V9 ⟨rfl, rfl⟩
    dsimp only
    refine hK.out _ _ ⟨hcell2, hb52⟩ (fun hHeld => ?_)
    clear hK K'
    try simp only [Act.put, List.setIfInBounds_toArray, List.set_cons_zero, List.set_cons_succ]
    refine wpAnyH_ready (rs := [7]) (by kernel_rfl) (by simp) ?_
    refine AllReadyH.cons (o := ⟨_, _, _, _, _, _⟩) rfl (fun K' hK => ?_) AllReadyH.nil
    go_simp
    refine HOP.out.mono ?_
    rintro en V3 ⟨rfl, hso⟩
    dsimp only
    refine hK.out _ _ (HK.out _ hso) (fun hHeld => ?_)
    clear hK K'
    try simp only [Act.put, List.setIfInBounds_toArray, List.set_cons_zero, List.set_cons_succ]
    refine wpAnyH_take (i := 8) (oi := ⟨_, _, _, _, _, _⟩) (v := ?_) rfl (by kernel_rfl) (by kernel_rfl) (by kernel_rfl) (fun _ _ _ h => h) (Or.inl ⟨by rfl, ?_⟩) (by assumption) ?_
    rotate_left 1
    · intro W' hSw
      obtain ⟨hS1, hS2⟩ := hSw
      go_simp
      try with_reducible rfl
    try simp only [Act.put, List.setIfInBounds_toArray, List.set_cons_zero, List.set_cons_succ]
    refine wpAnyH_done (by kernel_rfl) ?_ _
    clear hHeld
    go_wp2_with fail
    try go_ret
    exact HP.out _ hso
  · have hcb : (ckF p x.running q t == 0) = false := by simp; exact hc0
    have HP : Hid (Q (.returned (.int .i64 (ckF p x.running q t))) V) := by
      show Q _ _
      rw [HQ.out]
      unfold addC addS
      rw [if_pos hc0, if_pos hc0]
      exact ⟨rfl, HF1.out _ _ ⟨O1, HF2.out, HE2.out⟩⟩
    clear HE1 HE2 HF2
    go_wp2_with fail
    try go_ret
    exact HP.out
noncomputable def dropC (p : Pg) (run : Bool) (S : List (List Tup)) (q : Int) (t : Tup) : Int := if ckF p run q t ≠ 0 then ckF p run q t else delC (rowsAt S (3 * q.toNat)) t
noncomputable def dropS (p : Pg) (run : Bool) (S : List (List Tup)) (q : Int) (t : Tup) : List (List Tup) := if ckF p run q t ≠ 0 then S else S.set (3 * q.toNat) (delL (rowsAt S (3 * q.toNat)) t)
set_option maxRecDepth 40000 in
set_option maxHeartbeats 4000000 in
theorem drop_any (B : Nat) (O : Own) (W : World) (g be : Nat) (p : Pg) (x : Engine) (S sav : List (List Tup)) (hE : EAt B O W g be p x S sav) (hok : PgOk p) (hl : S.length = 3 * p.P.length) (hS : SOk S) (q : Int) (t : Tup) : Calls Try.prog 22 #[.pointer (some ⟨be, 0, none⟩), .int .i64 q, .agg (arr i64v t).toArray] W fun e W' => e = .returned (.int .i64 (dropC p x.running S q t)) ∧ EOut B O W g be p x (dropS p x.running S q t) sav W' := by
  obtain ⟨Q, hQ⟩ : ∃ Q, Q = (fun e W' => e = .returned (.int .i64 (dropC p x.running S q t)) ∧ EOut B O W g be p x (dropS p x.running S q t) sav W' : Ending → World → Prop) := ⟨_, rfl⟩
  rw [← hQ]
  have HQ := hid_of hQ
  have h64 := hok.nP
  have HE := hid_of hE
  have HOK := hid_of hok
  have HL := hid_of hl
  have HS := hid_of hS
  clear hQ hE hok hl hS
  go_enter Try.func22, Try.ntmps22
  go_upto_region 1 with fail
  refine wp_world (fun W0 => blk W0 W.heap.size = some (arr i64v t) ∧ W.Extends W0) ⟨?_, extends_alloc (ext_Ext (Ext.refl _)) _⟩ ?_
  · rw [blk_alloc, if_pos rfl]
  rintro W1 ⟨hb5, hx1⟩
  obtain ⟨b5, e5⟩ : ∃ b5, b5 = W.heap.size := ⟨_, rfl⟩
  rw [← e5] at hb5 ⊢
  have hn5 : W.heap.size ≤ b5 := by omega
  obtain ⟨O1, hO1⟩ : ∃ O1, O1 = lab O W.heap.size .no := ⟨_, rfl⟩
  have hE : EAt B O1 W1 g be p x S sav := by rw [hO1]; exact HE.out.new hx1 _
  have HF1 : Hid (∀ S' V, EOut B O1 W1 g be p x S' sav V → EOut B O W g be p x S' sav V) := by
    intro S' V h
    rw [hO1] at h
    exact eout_lab h hx1
  have HO5 : Hid (O1 b5 = .no) := by show O1 b5 = .no; rw [hO1]; exact lab_ge hn5
  obtain ⟨bst, hcell, hfre, hxst, -⟩ := eat_st hE
  obtain ⟨X, hX⟩ : ∃ X, X = x.enc := ⟨_, rfl⟩
  rw [← hX] at hcell
  obtain ⟨xl, -, -, -, x3, -, x5, x6, -, -, -, -, -, -⟩ := eng_cells hX
  rw [hxst] at x3
  have hcf := checkF_any B O1 W1 g be p x S sav hE HOK.out q t
  have HCF := hid_of hcf
  have HE1 := hid_of hE
  have HX := hid_of hX
  have HXS := hid_of hxst
  clear hE hX hxst hcf hx1 e5 hO1 hn5 x5 x6
  go_wp2_with fail
  refine HCF.out.mono ?_
  rintro en V ⟨rfl, hx2⟩
  have HE2 : Hid (EAt B O1 V g be p x S sav) := HE1.out.ext hx2
  have HF2 : Hid (Fr (isE g) O1 W1 O1 V) := Fr.of_extends hx2
  have hcell2 : blk V be = some X := (hx2.blk (blk_lt hcell)).trans hcell
  have hb52 : blk V b5 = some (arr i64v t) := (hx2.blk (blk_lt hb5)).trans hb5
  clear HCF hx2 hcell hfre hb5
  dsimp only
  by_cases hc0 : ckF p x.running q t = 0
  · have hin : inT p q := Classical.byContradiction fun hn => by
      unfold ckF at hc0
      by_cases hr : x.running = true
      · rw [if_pos hr] at hc0; cases hc0
      · rw [if_neg hr] at hc0
        have h5 : ckT p q t = 5 := by unfold ckT; rw [if_neg hn]
        rw [h5, if_pos (by decide)] at hc0
        cases hc0
    obtain ⟨n, rfl⟩ : ∃ n : Nat, q = (n : Int) := ⟨q.toNat, by have := hin.1; omega⟩
    have hn : n < p.P.length := by have := hin.2; omega
    obtain ⟨L, hL⟩ : ∃ L, L = rowsAt S (3 * n) := ⟨_, rfl⟩
    have hSL : S[3 * n]? = some L := by
      rw [hL]; unfold rowsAt
      have := HL.out
      rw [List.getD_eq_getElem?_getD, List.getElem?_eq_getElem (by omega)]; rfl
    have h512 : L.length ≤ 512 := by rw [hL]; exact (HS.out.at _).1
    have hop := delete_any B O1 V.drew g bst S ((eat_bst HE2.out HXS.out).2.2.1.ext (extd V)) (3 * n) L hSL h512 t
    have HOP := hid_of hop
    have hfx := full_any V.drew n (by omega)
    have HP : Hid (∀ V', SOut B O1 V.drew g bst (S.set (3 * n) (delL L t)) V' → Q (.returned (.int .i64 (delC L t))) V') := by
      intro V' ⟨O3, hf3, hs3⟩
      rw [HQ.out]
      unfold dropC dropS
      rw [if_neg (fun h => h hc0), if_neg (fun h => h hc0), Int.toNat_natCast, ← hL]
      exact ⟨rfl, HF1.out _ _ ⟨O3, HF2.out.drew.trans (hf3.mono (fun l h => .inl h)), (eat_bst (HE2.out.ext (extd V)) HXS.out).2.2.2.2 _ O3 V' hf3 hs3⟩⟩
    have HK : Hid (∀ V', SOut B O1 V.drew g bst (S.set (3 * n) (delL L t)) V' → blk V' be = some X ∧ blk V' b5 = some (arr i64v t)) := by
      intro V' ⟨O3, hf3, hs3⟩
      refine ⟨by rw [HX.out]; exact (eat_bst ((eat_bst (HE2.out.ext (extd V)) HXS.out).2.2.2.2 _ O3 V' hf3 hs3) HXS.out).1, ?_⟩
      exact hf3.blk (W := V.drew) hb52 (by rw [HO5.out]; rintro ⟨z, e⟩; cases e)
    rw [hc0]
    clear hc0 hin hL hSL hop HE1 HE2 HF2
    go_upto_region 4 with fail
    refine wp_region_held_drew (S := fun W' => blk W' be = some X ∧ blk W' b5 = some (arr i64v t)) (by kernel_rfl) ⟨hcell2, hb52⟩ (fun hHeld => ?_)
    refine wpAnyH_take (i := 0) (oi := ⟨_, _, _, _, _, _⟩) (v := ?_) rfl (by kernel_rfl) (by kernel_rfl) (by kernel_rfl) (fun _ _ _ h => h) (Or.inl ⟨by rfl, ?_⟩) (by assumption) ?_
    rotate_left 1
    · intro W' hSw
      obtain ⟨hS1, hS2⟩ := hSw
      go_simp
      try with_reducible rfl
    try simp only [Act.put, List.setIfInBounds_toArray, List.set_cons_zero, List.set_cons_succ]
    refine wpAnyH_take (i := 1) (oi := ⟨_, _, _, _, _, _⟩) (v := ?_) rfl (by kernel_rfl) (by kernel_rfl) (by kernel_rfl) (fun _ _ _ h => h) (Or.inl ⟨by rfl, ?_⟩) (by assumption) ?_
    rotate_left 1
    · intro W' hSw
      obtain ⟨hS1, hS2⟩ := hSw
      go_simp
      try with_reducible rfl
    try simp only [Act.put, List.setIfInBounds_toArray, List.set_cons_zero, List.set_cons_succ]
    refine wpAnyH_take (i := 2) (oi := ⟨_, _, _, _, _, _⟩) (v := ?_) rfl (by kernel_rfl) (by kernel_rfl) (by kernel_rfl) (fun _ _ _ h => h) (Or.inl ⟨by rfl, ?_⟩) (by assumption) ?_
    rotate_left 1
    · intro W' hSw
      obtain ⟨hS1, hS2⟩ := hSw
      go_simp
      try with_reducible rfl
    try simp only [Act.put, List.setIfInBounds_toArray, List.set_cons_zero, List.set_cons_succ]
    refine wpAnyH_take (i := 3) (oi := ⟨_, _, _, _, _, _⟩) (v := ?_) rfl (by kernel_rfl) (by kernel_rfl) (by kernel_rfl) (fun _ _ _ h => h) (Or.inl ⟨by rfl, ?_⟩) (by assumption) ?_
    rotate_left 1
    · intro W' hSw
      obtain ⟨hS1, hS2⟩ := hSw
      go_simp
      try with_reducible rfl
    try simp only [Act.put, List.setIfInBounds_toArray, List.set_cons_zero, List.set_cons_succ]
    refine wpAnyH_take (i := 4) (oi := ⟨_, _, _, _, _, _⟩) (v := ?_) rfl (by kernel_rfl) (by kernel_rfl) (by kernel_rfl) (fun _ _ _ h => h) (Or.inl ⟨by rfl, ?_⟩) (by assumption) ?_
    rotate_left 1
    · intro W' hSw
      obtain ⟨hS1, hS2⟩ := hSw
      go_simp
      try with_reducible rfl
    try simp only [Act.put, List.setIfInBounds_toArray, List.set_cons_zero, List.set_cons_succ]
    refine wpAnyH_take (i := 6) (oi := ⟨_, _, _, _, _, _⟩) (v := ?_) rfl (by kernel_rfl) (by kernel_rfl) (by kernel_rfl) (fun _ _ _ h => h) (Or.inl ⟨by rfl, ?_⟩) (by assumption) ?_
    rotate_left 1
    · intro W' hSw
      obtain ⟨hS1, hS2⟩ := hSw
      go_simp
      try with_reducible rfl
    try simp only [Act.put, List.setIfInBounds_toArray, List.set_cons_zero, List.set_cons_succ]
    refine wpAnyH_ready (rs := [5]) (by kernel_rfl) (by simp) ?_
    refine AllReadyH.cons (o := ⟨_, _, _, _, _, _⟩) rfl (fun K' hK => ?_) AllReadyH.nil
    go_simp
    refine hfx.mono ?_
    rintro en V9 ⟨rfl, rfl⟩
    dsimp only
    refine hK.out _ _ ⟨hcell2, hb52⟩ (fun hHeld => ?_)
    clear hK K'
    try simp only [Act.put, List.setIfInBounds_toArray, List.set_cons_zero, List.set_cons_succ]
    refine wpAnyH_ready (rs := [7]) (by kernel_rfl) (by simp) ?_
    refine AllReadyH.cons (o := ⟨_, _, _, _, _, _⟩) rfl (fun K' hK => ?_) AllReadyH.nil
    go_simp
    refine HOP.out.mono ?_
    rintro en V3 ⟨rfl, hso⟩
    dsimp only
    refine hK.out _ _ (HK.out _ hso) (fun hHeld => ?_)
    clear hK K'
    try simp only [Act.put, List.setIfInBounds_toArray, List.set_cons_zero, List.set_cons_succ]
    refine wpAnyH_take (i := 8) (oi := ⟨_, _, _, _, _, _⟩) (v := ?_) rfl (by kernel_rfl) (by kernel_rfl) (by kernel_rfl) (fun _ _ _ h => h) (Or.inl ⟨by rfl, ?_⟩) (by assumption) ?_
    rotate_left 1
    · intro W' hSw
      obtain ⟨hS1, hS2⟩ := hSw
      go_simp
      try with_reducible rfl
    try simp only [Act.put, List.setIfInBounds_toArray, List.set_cons_zero, List.set_cons_succ]
    refine wpAnyH_done (by kernel_rfl) ?_ _
    clear hHeld
    go_wp2_with fail
    try go_ret
    exact HP.out _ hso
  · have hcb : (ckF p x.running q t == 0) = false := by simp; exact hc0
    have HP : Hid (Q (.returned (.int .i64 (ckF p x.running q t))) V) := by
      show Q _ _
      rw [HQ.out]
      unfold dropC dropS
      rw [if_pos hc0, if_pos hc0]
      exact ⟨rfl, HF1.out _ _ ⟨O1, HF2.out, HE2.out⟩⟩
    clear HE1 HE2 HF2
    go_wp2_with fail
    try go_ret
    exact HP.out
set_option maxRecDepth 40000 in
set_option maxHeartbeats 4000000 in
theorem has_any (B : Nat) (O : Own) (W : World) (g be : Nat) (p : Pg) (x : Engine) (S sav : List (List Tup)) (hE : EAt B O W g be p x S sav) (hok : PgOk p) (hl : S.length = 3 * p.P.length) (hS : SOk S) (q : Int) (t : Tup) : Calls Try.prog 45 #[.pointer (some ⟨be, 0, none⟩), .int .i64 q, .agg (arr i64v t).toArray] W fun e W' => e = .returned (.tuple #[.bool (if ckT p q t ≠ 0 then false else decide (t ∈ rowsAt S (3 * q.toNat))), .int .i64 (ckT p q t)]) ∧ W.Extends W' := by
  obtain ⟨Q, hQ⟩ : ∃ Q, Q = (fun e W' => e = .returned (.tuple #[.bool (if ckT p q t ≠ 0 then false else decide (t ∈ rowsAt S (3 * q.toNat))), .int .i64 (ckT p q t)]) ∧ W.Extends W' : Ending → World → Prop) := ⟨_, rfl⟩
  rw [← hQ]
  have HQ := hid_of hQ
  have h64 := hok.nP
  have HE := hid_of hE
  have HOK := hid_of hok
  have HL := hid_of hl
  have HS := hid_of hS
  clear hQ hE hok hl hS
  go_enter Try.func45, Try.ntmps45
  go_upto_region 1 with fail
  refine wp_world (fun W0 => blk W0 W.heap.size = some (arr i64v t) ∧ W.Extends W0) ⟨?_, extends_alloc (ext_Ext (Ext.refl _)) _⟩ ?_
  · rw [blk_alloc, if_pos rfl]
  rintro W1 ⟨hb5, hx1⟩
  obtain ⟨b5, e5⟩ : ∃ b5, b5 = W.heap.size := ⟨_, rfl⟩
  rw [← e5] at hb5 ⊢
  have hE := HE.out.ext hx1
  obtain ⟨bst, hcell, hfre, hxst, -⟩ := eat_st hE
  obtain ⟨X, hX⟩ : ∃ X, X = x.enc := ⟨_, rfl⟩
  rw [← hX] at hcell
  obtain ⟨xl, -, -, -, x3, -, x5, x6, -, -, -, -, -, -⟩ := eng_cells hX
  rw [hxst] at x3
  have hcf := checkT_any B O W1 g be p x S sav hE HOK.out q t
  have HCF := hid_of hcf
  have HE1 := hid_of hE
  have HX1 := hid_of hx1
  have HXS := hid_of hxst
  clear hE hX hxst hcf hx1 e5 x5 x6
  go_wp2_with fail
  refine HCF.out.mono ?_
  rintro en V ⟨rfl, hx2⟩
  have HE2 : Hid (EAt B O V g be p x S sav) := HE1.out.ext hx2
  have HX2 := hid_of (HX1.out.trans hx2)
  have hcell2 : blk V be = some X := (hx2.blk (blk_lt hcell)).trans hcell
  have hb52 : blk V b5 = some (arr i64v t) := (hx2.blk (blk_lt hb5)).trans hb5
  clear HCF hx2 hcell hfre hb5
  dsimp only
  by_cases hc0 : ckT p q t = 0
  · have hin : inT p q := Classical.byContradiction fun hn => by
      unfold ckT at hc0
      rw [if_neg hn] at hc0
      cases hc0
    obtain ⟨n, rfl⟩ : ∃ n : Nat, q = (n : Int) := ⟨q.toNat, by have := hin.1; omega⟩
    have hn : n < p.P.length := by have := hin.2; omega
    obtain ⟨L, hL⟩ : ∃ L, L = rowsAt S (3 * n) := ⟨_, rfl⟩
    have hSL : S[3 * n]? = some L := by
      rw [hL]; unfold rowsAt
      have := HL.out
      rw [List.getD_eq_getElem?_getD, List.getElem?_eq_getElem (by omega)]; rfl
    have h512 : L.length ≤ 512 := by rw [hL]; exact (HS.out.at _).1
    have hop := contains_any B O V.drew g bst S ((eat_bst HE2.out HXS.out).2.2.1.ext (extd V)) (3 * n) L hSL h512 t
    have HOP := hid_of hop
    have hfx := full_any V.drew n (by omega)
    have HP : Hid (∀ V', V.drew.Extends V' → Q (.returned (.tuple #[.bool (decide (t ∈ L)), .int .i64 0])) V') := by
      intro V' hx
      rw [HQ.out]
      refine ⟨?_, HX2.out.trans ((extd V).trans hx)⟩
      rw [if_neg (fun h => h hc0), Int.toNat_natCast, ← hL, hc0]
    rw [hc0]
    clear hc0 hin hL hSL hop HE1 HE2
    go_upto_region 4 with fail
    refine wp_region_held_drew (S := fun W' => blk W' be = some X ∧ blk W' b5 = some (arr i64v t)) (by kernel_rfl) ⟨hcell2, hb52⟩ (fun hHeld => ?_)
    refine wpAnyH_take (i := 0) (oi := ⟨_, _, _, _, _, _⟩) (v := ?_) rfl (by kernel_rfl) (by kernel_rfl) (by kernel_rfl) (fun _ _ _ h => h) (Or.inl ⟨by rfl, ?_⟩) (by assumption) ?_
    rotate_left 1
    · intro W' hSw
      obtain ⟨hS1, hS2⟩ := hSw
      go_simp
      try with_reducible rfl
    try simp only [Act.put, List.setIfInBounds_toArray, List.set_cons_zero, List.set_cons_succ]
    refine wpAnyH_take (i := 1) (oi := ⟨_, _, _, _, _, _⟩) (v := ?_) rfl (by kernel_rfl) (by kernel_rfl) (by kernel_rfl) (fun _ _ _ h => h) (Or.inl ⟨by rfl, ?_⟩) (by assumption) ?_
    rotate_left 1
    · intro W' hSw
      obtain ⟨hS1, hS2⟩ := hSw
      go_simp
      try with_reducible rfl
    try simp only [Act.put, List.setIfInBounds_toArray, List.set_cons_zero, List.set_cons_succ]
    refine wpAnyH_take (i := 2) (oi := ⟨_, _, _, _, _, _⟩) (v := ?_) rfl (by kernel_rfl) (by kernel_rfl) (by kernel_rfl) (fun _ _ _ h => h) (Or.inl ⟨by rfl, ?_⟩) (by assumption) ?_
    rotate_left 1
    · intro W' hSw
      obtain ⟨hS1, hS2⟩ := hSw
      go_simp
      try with_reducible rfl
    try simp only [Act.put, List.setIfInBounds_toArray, List.set_cons_zero, List.set_cons_succ]
    refine wpAnyH_take (i := 3) (oi := ⟨_, _, _, _, _, _⟩) (v := ?_) rfl (by kernel_rfl) (by kernel_rfl) (by kernel_rfl) (fun _ _ _ h => h) (Or.inl ⟨by rfl, ?_⟩) (by assumption) ?_
    rotate_left 1
    · intro W' hSw
      obtain ⟨hS1, hS2⟩ := hSw
      go_simp
      try with_reducible rfl
    try simp only [Act.put, List.setIfInBounds_toArray, List.set_cons_zero, List.set_cons_succ]
    refine wpAnyH_take (i := 4) (oi := ⟨_, _, _, _, _, _⟩) (v := ?_) rfl (by kernel_rfl) (by kernel_rfl) (by kernel_rfl) (fun _ _ _ h => h) (Or.inl ⟨by rfl, ?_⟩) (by assumption) ?_
    rotate_left 1
    · intro W' hSw
      obtain ⟨hS1, hS2⟩ := hSw
      go_simp
      try with_reducible rfl
    try simp only [Act.put, List.setIfInBounds_toArray, List.set_cons_zero, List.set_cons_succ]
    refine wpAnyH_take (i := 6) (oi := ⟨_, _, _, _, _, _⟩) (v := ?_) rfl (by kernel_rfl) (by kernel_rfl) (by kernel_rfl) (fun _ _ _ h => h) (Or.inl ⟨by rfl, ?_⟩) (by assumption) ?_
    rotate_left 1
    · intro W' hSw
      obtain ⟨hS1, hS2⟩ := hSw
      go_simp
      try with_reducible rfl
    try simp only [Act.put, List.setIfInBounds_toArray, List.set_cons_zero, List.set_cons_succ]
    refine wpAnyH_ready (rs := [5]) (by kernel_rfl) (by simp) ?_
    refine AllReadyH.cons (o := ⟨_, _, _, _, _, _⟩) rfl (fun K' hK => ?_) AllReadyH.nil
    go_simp
    refine hfx.mono ?_
    rintro en V9 ⟨rfl, rfl⟩
    dsimp only
    refine hK.out _ _ ⟨hcell2, hb52⟩ (fun hHeld => ?_)
    clear hK K'
    try simp only [Act.put, List.setIfInBounds_toArray, List.set_cons_zero, List.set_cons_succ]
    refine wpAnyH_ready (rs := [7]) (by kernel_rfl) (by simp) ?_
    refine AllReadyH.cons (o := ⟨_, _, _, _, _, _⟩) rfl (fun K' hK => ?_) AllReadyH.nil
    go_simp
    refine HOP.out.mono ?_
    rintro en V3 ⟨rfl, hx3⟩
    dsimp only
    refine hK.out _ _ ⟨(hx3.blk (blk_lt hcell2)).trans hcell2, (hx3.blk (blk_lt hb52)).trans hb52⟩ (fun hHeld => ?_)
    clear hK K'
    try simp only [Act.put, List.setIfInBounds_toArray, List.set_cons_zero, List.set_cons_succ]
    refine wpAnyH_take (i := 8) (oi := ⟨_, _, _, _, _, _⟩) (v := ?_) rfl (by kernel_rfl) (by kernel_rfl) (by kernel_rfl) (fun _ _ _ h => h) (Or.inl ⟨by rfl, ?_⟩) (by assumption) ?_
    rotate_left 1
    · intro W' hSw
      obtain ⟨hS1, hS2⟩ := hSw
      go_simp
      try with_reducible rfl
    try simp only [Act.put, List.setIfInBounds_toArray, List.set_cons_zero, List.set_cons_succ]
    refine wpAnyH_take (i := 9) (oi := ⟨_, _, _, _, _, _⟩) (v := ?_) rfl (by kernel_rfl) (by kernel_rfl) (by kernel_rfl) (fun _ _ _ h => h) (Or.inl ⟨by rfl, ?_⟩) (by assumption) ?_
    rotate_left 1
    · intro W' hSw
      obtain ⟨hS1, hS2⟩ := hSw
      go_simp
      try with_reducible rfl
    try simp only [Act.put, List.setIfInBounds_toArray, List.set_cons_zero, List.set_cons_succ]
    refine wpAnyH_take (i := 10) (oi := ⟨_, _, _, _, _, _⟩) (v := ?_) rfl (by kernel_rfl) (by kernel_rfl) (by kernel_rfl) (fun _ _ _ h => h) (Or.inl ⟨by rfl, ?_⟩) (by assumption) ?_
    rotate_left 1
    · intro W' hSw
      obtain ⟨hS1, hS2⟩ := hSw
      go_simp
      try with_reducible rfl
    try simp only [Act.put, List.setIfInBounds_toArray, List.set_cons_zero, List.set_cons_succ]
    refine wpAnyH_take (i := 11) (oi := ⟨_, _, _, _, _, _⟩) (v := ?_) rfl (by kernel_rfl) (by kernel_rfl) (by kernel_rfl) (fun _ _ _ h => h) (Or.inl ⟨by rfl, ?_⟩) (by assumption) ?_
    rotate_left 1
    · intro W' hSw
      obtain ⟨hS1, hS2⟩ := hSw
      go_simp
      try with_reducible rfl
    try simp only [Act.put, List.setIfInBounds_toArray, List.set_cons_zero, List.set_cons_succ]
    refine wpAnyH_done (by kernel_rfl) ?_ _
    clear hHeld
    go_wp2_with fail
    try go_ret2
    exact HP.out _ hx3
  · have hcb : (ckT p q t == 0) = false := by simp; exact hc0
    have HP : Hid (Q (.returned (.tuple #[.bool false, .int .i64 (ckT p q t)])) V) := by
      show Q _ _
      rw [HQ.out]
      refine ⟨?_, HX2.out⟩
      rw [if_pos hc0]
    clear HE1 HE2
    go_wp2_with fail
    try go_ret2
    exact HP.out
set_option maxRecDepth 40000 in
set_option maxHeartbeats 4000000 in
theorem listE_any (B : Nat) (O : Own) (W : World) (g be : Nat) (p : Pg) (x : Engine) (S sav : List (List Tup)) (hE : EAt B O W g be p x S sav) (hok : PgOk p) (hl : S.length = 3 * p.P.length) (hS : SOk S) (q : Int) : Calls Try.prog 38 #[.pointer (some ⟨be, 0, none⟩), .int .i64 q] W fun e W' => ∃ a n c, e = .returned (.tuple #[.slice a n c, .int .i64 (if inT p q then 0 else 5)]) ∧ Outs W W' a n c (if inT p q then rowsAt S (3 * q.toNat) else []) := by
  obtain ⟨Q, hQ⟩ : ∃ Q, Q = (fun e W' => ∃ a n c, e = .returned (.tuple #[.slice a n c, .int .i64 (if inT p q then 0 else 5)]) ∧ Outs W W' a n c (if inT p q then rowsAt S (3 * q.toNat) else []) : Ending → World → Prop) := ⟨_, rfl⟩
  rw [← hQ]
  have HQ := hid_of hQ
  have h64 := hok.nP
  obtain ⟨bst, hcell, hfre, hxst, -⟩ := eat_st hE
  obtain ⟨X, hX⟩ : ∃ X, X = x.enc := ⟨_, rfl⟩
  rw [← hX] at hcell
  obtain ⟨xl, -, -, -, x3, -, x5, x6, -, -, -, -, -, -⟩ := eng_cells hX
  rw [hxst] at x3
  have hit := inTb_any B O W g be p x S sav hE h64 q
  have HIT := hid_of hit
  have HE := hid_of hE
  have HXS := hid_of hxst
  have HL := hid_of hl
  have HS := hid_of hS
  clear hQ hE hok hl hS hit hX hxst x5 x6
  go_enter Try.func38, Try.ntmps38
  go_wp2_with fail
  refine HIT.out.mono ?_
  rintro en V ⟨rfl, rfl⟩
  dsimp only
  by_cases hin : inT p q
  · have hd : decide (inT p q) = true := decide_eq_true hin
    obtain ⟨n, rfl⟩ : ∃ n : Nat, q = (n : Int) := ⟨q.toNat, by have := hin.1; omega⟩
    have hn : n < p.P.length := by have := hin.2; omega
    obtain ⟨L, hL⟩ : ∃ L, L = rowsAt S (3 * n) := ⟨_, rfl⟩
    have hSL : S[3 * n]? = some L := by
      rw [hL]; unfold rowsAt
      have := HL.out
      rw [List.getD_eq_getElem?_getD, List.getElem?_eq_getElem (by omega)]; rfl
    have h512 : L.length ≤ 512 := by rw [hL]; exact (HS.out.at _).1
    have hop := list_any B O V.drew g bst S ((eat_bst HE.out HXS.out).2.2.1.ext (extd V)) (3 * n) L hSL h512
    have HOP := hid_of hop
    have hfx := full_any V.drew n (by omega)
    have HP : Hid (∀ V' a c, Outs V.drew V' a L.length c L → Q (.returned (.tuple #[.slice a L.length c, .int .i64 0])) V') := by
      intro V' a c hx
      rw [HQ.out]
      refine ⟨a, L.length, c, by rw [if_pos hin], ?_⟩
      rw [if_pos hin, Int.toNat_natCast, ← hL]
      exact ⟨hx.1, (extd V).trans hx.2.1, hx.2.2⟩
    clear hin hL hSL hop
    go_upto_region 3 with fail
    refine wp_region_held_drew (S := fun W' => blk W' be = some X) (by kernel_rfl) hcell (fun hHeld => ?_)
    refine wpAnyH_take (i := 0) (oi := ⟨_, _, _, _, _, _⟩) (v := ?_) rfl (by kernel_rfl) (by kernel_rfl) (by kernel_rfl) (fun _ _ _ h => h) (Or.inl ⟨by rfl, ?_⟩) (by assumption) ?_
    rotate_left 1
    · intro W' hSw
      go_simp
      try with_reducible rfl
    try simp only [Act.put, List.setIfInBounds_toArray, List.set_cons_zero, List.set_cons_succ]
    refine wpAnyH_take (i := 1) (oi := ⟨_, _, _, _, _, _⟩) (v := ?_) rfl (by kernel_rfl) (by kernel_rfl) (by kernel_rfl) (fun _ _ _ h => h) (Or.inl ⟨by rfl, ?_⟩) (by assumption) ?_
    rotate_left 1
    · intro W' hSw
      go_simp
      try with_reducible rfl
    try simp only [Act.put, List.setIfInBounds_toArray, List.set_cons_zero, List.set_cons_succ]
    refine wpAnyH_take (i := 2) (oi := ⟨_, _, _, _, _, _⟩) (v := ?_) rfl (by kernel_rfl) (by kernel_rfl) (by kernel_rfl) (fun _ _ _ h => h) (Or.inl ⟨by rfl, ?_⟩) (by assumption) ?_
    rotate_left 1
    · intro W' hSw
      go_simp
      try with_reducible rfl
    try simp only [Act.put, List.setIfInBounds_toArray, List.set_cons_zero, List.set_cons_succ]
    refine wpAnyH_take (i := 3) (oi := ⟨_, _, _, _, _, _⟩) (v := ?_) rfl (by kernel_rfl) (by kernel_rfl) (by kernel_rfl) (fun _ _ _ h => h) (Or.inl ⟨by rfl, ?_⟩) (by assumption) ?_
    rotate_left 1
    · intro W' hSw
      go_simp
      try with_reducible rfl
    try simp only [Act.put, List.setIfInBounds_toArray, List.set_cons_zero, List.set_cons_succ]
    refine wpAnyH_take (i := 4) (oi := ⟨_, _, _, _, _, _⟩) (v := ?_) rfl (by kernel_rfl) (by kernel_rfl) (by kernel_rfl) (fun _ _ _ h => h) (Or.inl ⟨by rfl, ?_⟩) (by assumption) ?_
    rotate_left 1
    · intro W' hSw
      go_simp
      try with_reducible rfl
    try simp only [Act.put, List.setIfInBounds_toArray, List.set_cons_zero, List.set_cons_succ]
    refine wpAnyH_ready (rs := [5]) (by kernel_rfl) (by simp) ?_
    refine AllReadyH.cons (o := ⟨_, _, _, _, _, _⟩) rfl (fun K' hK => ?_) AllReadyH.nil
    go_simp
    refine hfx.mono ?_
    rintro en V9 ⟨rfl, rfl⟩
    dsimp only
    refine hK.out _ _ hcell (fun hHeld => ?_)
    clear hK K'
    try simp only [Act.put, List.setIfInBounds_toArray, List.set_cons_zero, List.set_cons_succ]
    refine wpAnyH_ready (rs := [6]) (by kernel_rfl) (by simp) ?_
    refine AllReadyH.cons (o := ⟨_, _, _, _, _, _⟩) rfl (fun K' hK => ?_) AllReadyH.nil
    go_simp
    refine HOP.out.mono ?_
    rintro en V3 ⟨a, c, rfl, ho⟩
    dsimp only
    refine hK.out _ _ ((ho.2.1.blk (blk_lt hcell)).trans hcell) (fun hHeld => ?_)
    clear hK K'
    try simp only [Act.put, List.setIfInBounds_toArray, List.set_cons_zero, List.set_cons_succ]
    refine wpAnyH_take (i := 7) (oi := ⟨_, _, _, _, _, _⟩) (v := ?_) rfl (by kernel_rfl) (by kernel_rfl) (by kernel_rfl) (fun _ _ _ h => h) (Or.inl ⟨by rfl, ?_⟩) (by assumption) ?_
    rotate_left 1
    · intro W' hSw
      go_simp
      try with_reducible rfl
    try simp only [Act.put, List.setIfInBounds_toArray, List.set_cons_zero, List.set_cons_succ]
    refine wpAnyH_take (i := 8) (oi := ⟨_, _, _, _, _, _⟩) (v := ?_) rfl (by kernel_rfl) (by kernel_rfl) (by kernel_rfl) (fun _ _ _ h => h) (Or.inl ⟨by rfl, ?_⟩) (by assumption) ?_
    rotate_left 1
    · intro W' hSw
      go_simp
      try with_reducible rfl
    try simp only [Act.put, List.setIfInBounds_toArray, List.set_cons_zero, List.set_cons_succ]
    refine wpAnyH_take (i := 9) (oi := ⟨_, _, _, _, _, _⟩) (v := ?_) rfl (by kernel_rfl) (by kernel_rfl) (by kernel_rfl) (fun _ _ _ h => h) (Or.inl ⟨by rfl, ?_⟩) (by assumption) ?_
    rotate_left 1
    · intro W' hSw
      go_simp
      try with_reducible rfl
    try simp only [Act.put, List.setIfInBounds_toArray, List.set_cons_zero, List.set_cons_succ]
    refine wpAnyH_take (i := 10) (oi := ⟨_, _, _, _, _, _⟩) (v := ?_) rfl (by kernel_rfl) (by kernel_rfl) (by kernel_rfl) (fun _ _ _ h => h) (Or.inl ⟨by rfl, ?_⟩) (by assumption) ?_
    rotate_left 1
    · intro W' hSw
      go_simp
      try with_reducible rfl
    try simp only [Act.put, List.setIfInBounds_toArray, List.set_cons_zero, List.set_cons_succ]
    refine wpAnyH_done (by kernel_rfl) ?_ _
    clear hHeld
    go_wp2_with fail
    try go_ret2
    exact HP.out _ _ _ ho
  · have hd : decide (inT p q) = false := decide_eq_false hin
    have HP : Hid (Q (.returned (.tuple #[.slice none 0 0, .int .i64 5])) V) := by
      show Q _ _
      rw [HQ.out]
      refine ⟨none, 0, 0, by rw [if_neg hin], ?_⟩
      rw [if_neg hin]
      exact Outs.nil _ _ (ext_Ext (Ext.refl _))
    clear hin
    go_wp2_with fail
    try go_ret2
    exact HP.out
set_option maxRecDepth 40000 in
set_option maxHeartbeats 4000000 in
theorem deltaE_any (B : Nat) (O : Own) (W : World) (g be : Nat) (p : Pg) (x : Engine) (S sav : List (List Tup)) (hE : EAt B O W g be p x S sav) (hok : PgOk p) (hl : S.length = 3 * p.P.length) (hS : SOk S) (q : Int) : Calls Try.prog 27 #[.pointer (some ⟨be, 0, none⟩), .int .i64 q] W fun e W' => ∃ a n c, e = .returned (.tuple #[.slice a n c, .int .i64 (if inT p q then 0 else 5)]) ∧ Outs W W' a n c (if inT p q then rowsAt S (3 * q.toNat + 1) else []) := by
  obtain ⟨Q, hQ⟩ : ∃ Q, Q = (fun e W' => ∃ a n c, e = .returned (.tuple #[.slice a n c, .int .i64 (if inT p q then 0 else 5)]) ∧ Outs W W' a n c (if inT p q then rowsAt S (3 * q.toNat + 1) else []) : Ending → World → Prop) := ⟨_, rfl⟩
  rw [← hQ]
  have HQ := hid_of hQ
  have h64 := hok.nP
  obtain ⟨bst, hcell, hfre, hxst, -⟩ := eat_st hE
  obtain ⟨X, hX⟩ : ∃ X, X = x.enc := ⟨_, rfl⟩
  rw [← hX] at hcell
  obtain ⟨xl, -, -, -, x3, -, x5, x6, -, -, -, -, -, -⟩ := eng_cells hX
  rw [hxst] at x3
  have hit := inTb_any B O W g be p x S sav hE h64 q
  have HIT := hid_of hit
  have HE := hid_of hE
  have HXS := hid_of hxst
  have HL := hid_of hl
  have HS := hid_of hS
  clear hQ hE hok hl hS hit hX hxst x5 x6
  go_enter Try.func27, Try.ntmps27
  go_wp2_with fail
  refine HIT.out.mono ?_
  rintro en V ⟨rfl, rfl⟩
  dsimp only
  by_cases hin : inT p q
  · have hd : decide (inT p q) = true := decide_eq_true hin
    obtain ⟨n, rfl⟩ : ∃ n : Nat, q = (n : Int) := ⟨q.toNat, by have := hin.1; omega⟩
    have hn : n < p.P.length := by have := hin.2; omega
    obtain ⟨L, hL⟩ : ∃ L, L = rowsAt S (3 * n + 1) := ⟨_, rfl⟩
    have hSL : S[3 * n + 1]? = some L := by
      rw [hL]; unfold rowsAt
      have := HL.out
      rw [List.getD_eq_getElem?_getD, List.getElem?_eq_getElem (by omega)]; rfl
    have h512 : L.length ≤ 512 := by rw [hL]; exact (HS.out.at _).1
    have hop := list_any B O V.drew g bst S ((eat_bst HE.out HXS.out).2.2.1.ext (extd V)) (3 * n + 1) L hSL h512
    have HOP := hid_of hop
    have hfx := delta_any V.drew n (by omega)
    have HP : Hid (∀ V' a c, Outs V.drew V' a L.length c L → Q (.returned (.tuple #[.slice a L.length c, .int .i64 0])) V') := by
      intro V' a c hx
      rw [HQ.out]
      refine ⟨a, L.length, c, by rw [if_pos hin], ?_⟩
      rw [if_pos hin, Int.toNat_natCast, ← hL]
      exact ⟨hx.1, (extd V).trans hx.2.1, hx.2.2⟩
    clear hin hL hSL hop
    go_upto_region 3 with fail
    refine wp_region_held_drew (S := fun W' => blk W' be = some X) (by kernel_rfl) hcell (fun hHeld => ?_)
    refine wpAnyH_take (i := 0) (oi := ⟨_, _, _, _, _, _⟩) (v := ?_) rfl (by kernel_rfl) (by kernel_rfl) (by kernel_rfl) (fun _ _ _ h => h) (Or.inl ⟨by rfl, ?_⟩) (by assumption) ?_
    rotate_left 1
    · intro W' hSw
      go_simp
      try with_reducible rfl
    try simp only [Act.put, List.setIfInBounds_toArray, List.set_cons_zero, List.set_cons_succ]
    refine wpAnyH_take (i := 1) (oi := ⟨_, _, _, _, _, _⟩) (v := ?_) rfl (by kernel_rfl) (by kernel_rfl) (by kernel_rfl) (fun _ _ _ h => h) (Or.inl ⟨by rfl, ?_⟩) (by assumption) ?_
    rotate_left 1
    · intro W' hSw
      go_simp
      try with_reducible rfl
    try simp only [Act.put, List.setIfInBounds_toArray, List.set_cons_zero, List.set_cons_succ]
    refine wpAnyH_take (i := 2) (oi := ⟨_, _, _, _, _, _⟩) (v := ?_) rfl (by kernel_rfl) (by kernel_rfl) (by kernel_rfl) (fun _ _ _ h => h) (Or.inl ⟨by rfl, ?_⟩) (by assumption) ?_
    rotate_left 1
    · intro W' hSw
      go_simp
      try with_reducible rfl
    try simp only [Act.put, List.setIfInBounds_toArray, List.set_cons_zero, List.set_cons_succ]
    refine wpAnyH_take (i := 3) (oi := ⟨_, _, _, _, _, _⟩) (v := ?_) rfl (by kernel_rfl) (by kernel_rfl) (by kernel_rfl) (fun _ _ _ h => h) (Or.inl ⟨by rfl, ?_⟩) (by assumption) ?_
    rotate_left 1
    · intro W' hSw
      go_simp
      try with_reducible rfl
    try simp only [Act.put, List.setIfInBounds_toArray, List.set_cons_zero, List.set_cons_succ]
    refine wpAnyH_take (i := 4) (oi := ⟨_, _, _, _, _, _⟩) (v := ?_) rfl (by kernel_rfl) (by kernel_rfl) (by kernel_rfl) (fun _ _ _ h => h) (Or.inl ⟨by rfl, ?_⟩) (by assumption) ?_
    rotate_left 1
    · intro W' hSw
      go_simp
      try with_reducible rfl
    try simp only [Act.put, List.setIfInBounds_toArray, List.set_cons_zero, List.set_cons_succ]
    refine wpAnyH_ready (rs := [5]) (by kernel_rfl) (by simp) ?_
    refine AllReadyH.cons (o := ⟨_, _, _, _, _, _⟩) rfl (fun K' hK => ?_) AllReadyH.nil
    go_simp
    refine hfx.mono ?_
    rintro en V9 ⟨rfl, rfl⟩
    dsimp only
    refine hK.out _ _ hcell (fun hHeld => ?_)
    clear hK K'
    try simp only [Act.put, List.setIfInBounds_toArray, List.set_cons_zero, List.set_cons_succ]
    refine wpAnyH_ready (rs := [6]) (by kernel_rfl) (by simp) ?_
    refine AllReadyH.cons (o := ⟨_, _, _, _, _, _⟩) rfl (fun K' hK => ?_) AllReadyH.nil
    go_simp
    refine HOP.out.mono ?_
    rintro en V3 ⟨a, c, rfl, ho⟩
    dsimp only
    refine hK.out _ _ ((ho.2.1.blk (blk_lt hcell)).trans hcell) (fun hHeld => ?_)
    clear hK K'
    try simp only [Act.put, List.setIfInBounds_toArray, List.set_cons_zero, List.set_cons_succ]
    refine wpAnyH_take (i := 7) (oi := ⟨_, _, _, _, _, _⟩) (v := ?_) rfl (by kernel_rfl) (by kernel_rfl) (by kernel_rfl) (fun _ _ _ h => h) (Or.inl ⟨by rfl, ?_⟩) (by assumption) ?_
    rotate_left 1
    · intro W' hSw
      go_simp
      try with_reducible rfl
    try simp only [Act.put, List.setIfInBounds_toArray, List.set_cons_zero, List.set_cons_succ]
    refine wpAnyH_take (i := 8) (oi := ⟨_, _, _, _, _, _⟩) (v := ?_) rfl (by kernel_rfl) (by kernel_rfl) (by kernel_rfl) (fun _ _ _ h => h) (Or.inl ⟨by rfl, ?_⟩) (by assumption) ?_
    rotate_left 1
    · intro W' hSw
      go_simp
      try with_reducible rfl
    try simp only [Act.put, List.setIfInBounds_toArray, List.set_cons_zero, List.set_cons_succ]
    refine wpAnyH_take (i := 9) (oi := ⟨_, _, _, _, _, _⟩) (v := ?_) rfl (by kernel_rfl) (by kernel_rfl) (by kernel_rfl) (fun _ _ _ h => h) (Or.inl ⟨by rfl, ?_⟩) (by assumption) ?_
    rotate_left 1
    · intro W' hSw
      go_simp
      try with_reducible rfl
    try simp only [Act.put, List.setIfInBounds_toArray, List.set_cons_zero, List.set_cons_succ]
    refine wpAnyH_take (i := 10) (oi := ⟨_, _, _, _, _, _⟩) (v := ?_) rfl (by kernel_rfl) (by kernel_rfl) (by kernel_rfl) (fun _ _ _ h => h) (Or.inl ⟨by rfl, ?_⟩) (by assumption) ?_
    rotate_left 1
    · intro W' hSw
      go_simp
      try with_reducible rfl
    try simp only [Act.put, List.setIfInBounds_toArray, List.set_cons_zero, List.set_cons_succ]
    refine wpAnyH_done (by kernel_rfl) ?_ _
    clear hHeld
    go_wp2_with fail
    try go_ret2
    exact HP.out _ _ _ ho
  · have hd : decide (inT p q) = false := decide_eq_false hin
    have HP : Hid (Q (.returned (.tuple #[.slice none 0 0, .int .i64 5])) V) := by
      show Q _ _
      rw [HQ.out]
      refine ⟨none, 0, 0, by rw [if_neg hin], ?_⟩
      rw [if_neg hin]
      exact Outs.nil _ _ (ext_Ext (Ext.refl _))
    clear hin
    go_wp2_with fail
    try go_ret2
    exact HP.out
set_option maxRecDepth 20000 in
theorem running_any (B : Nat) (O : Own) (W : World) (g be : Nat) (p : Pg) (x : Engine) (S sav : List (List Tup)) (hE : EAt B O W g be p x S sav) : Calls Try.prog 19 #[.pointer (some ⟨be, 0, none⟩)] W fun e W' => e = .returned (.bool x.running) ∧ W' = W := by
  obtain ⟨bst, hcell, hfre, hxst, -⟩ := eat_st hE
  obtain ⟨X, hX⟩ : ∃ X, X = x.enc := ⟨_, rfl⟩
  rw [← hX] at hcell
  obtain ⟨xl, -, -, -, x3, -, x5, x6, -, -, -, -, -, -⟩ := eng_cells hX
  rw [hxst] at x3
  clear hE hX hxst x3
  go_enter Try.func19, Try.ntmps19
  go_wp2_with fail
  try go_ret
  exact ⟨rfl, rfl⟩
set_option maxRecDepth 20000 in
theorem stratum_any (B : Nat) (O : Own) (W : World) (g be : Nat) (p : Pg) (x : Engine) (S sav : List (List Tup)) (hE : EAt B O W g be p x S sav) : Calls Try.prog 20 #[.pointer (some ⟨be, 0, none⟩)] W fun e W' => e = .returned (.int .i64 x.stratum) ∧ W' = W := by
  obtain ⟨bst, hcell, hfre, hxst, -⟩ := eat_st hE
  obtain ⟨X, hX⟩ : ∃ X, X = x.enc := ⟨_, rfl⟩
  rw [← hX] at hcell
  obtain ⟨xl, -, -, -, x3, -, x5, x6, -, -, -, -, -, -⟩ := eng_cells hX
  rw [hxst] at x3
  clear hE hX hxst x3
  go_enter Try.func20, Try.ntmps20
  go_wp2_with fail
  try go_ret
  exact ⟨rfl, rfl⟩
set_option maxRecDepth 20000 in
theorem store_anyE (B : Nat) (O : Own) (W : World) (g be : Nat) (p : Pg) (x : Engine) (S sav : List (List Tup)) (hE : EAt B O W g be p x S sav) (bst : Nat) (hxst : x.st = some ⟨bst, 0, none⟩) : Calls Try.prog 66 #[.pointer (some ⟨be, 0, none⟩)] W fun e W' => e = .returned (.pointer (some ⟨bst, 0, none⟩)) ∧ W' = W := by
  obtain ⟨hcell, hfre, -, -, -⟩ := eat_bst hE hxst
  obtain ⟨X, hX⟩ : ∃ X, X = x.enc := ⟨_, rfl⟩
  rw [← hX] at hcell
  obtain ⟨xl, -, -, -, x3, -, x5, x6, -, -, -, -, -, -⟩ := eng_cells hX
  rw [hxst] at x3
  clear hE hX hxst
  go_enter Try.func66, Try.ntmps66
  go_wp2_with fail
  try go_ret
  exact ⟨rfl, rfl⟩
set_option maxRecDepth 20000 in
theorem roundOff_any (B : Nat) (O : Own) (W : World) (g be : Nat) (p : Pg) (x : Engine) (S sav : List (List Tup)) (hE : EAt B O W g be p x S sav) (hrun : x.running = false) : Calls Try.prog 24 #[.pointer (some ⟨be, 0, none⟩)] W fun e W' => e = .returned (.tuple #[.int .i64 0, .int .i64 10]) ∧ W' = W := by
  obtain ⟨bst, hcell, hfre, hxst, -⟩ := eat_st hE
  obtain ⟨X, hX⟩ : ∃ X, X = x.enc := ⟨_, rfl⟩
  rw [← hX] at hcell
  obtain ⟨xl, -, -, -, x3, -, x5, x6, -, -, -, -, -, -⟩ := eng_cells hX
  rw [hxst] at x3
  rw [hrun] at x5
  clear hE hX hxst x3
  go_enter Try.func24, Try.ntmps24
  go_wp2_with fail
  try go_ret2
  exact ⟨rfl, rfl⟩
end Go.Proofs.Qxb6500788a
