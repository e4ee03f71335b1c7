import Derived.Test.Qxb6500788aNw5
import Derived.StillTailTactics
import Derived.Deep.QuietTactic
import Derived.BigQuiet
import Derived.Deep.RegionHeld
import Derived.Deep.CutRange
import Derived.Laws.ResultCell
import Derived.Laws.Rows
import Derived.DeepKeys
import Derived.DataBytes
import Derived.Laws.StructEq
import Derived.Laws.AppendOwn
import Derived.Laws.MakeOwn
set_option linter.unusedSimpArgs false
set_option linter.unusedVariables false
namespace Go.Proofs.Qxb6500788a
open Go.RowKit Go.Blk
attribute [local go_sem ↓] execOp_load execOp_store execOp_alloc
attribute [local go_sem] Try.ld24 Try.st24 Try.ld25 Try.st25 Try.ld3 Try.st3 Try.ld30 Try.st30 Try.ld36 Try.st36 Try.ld4 Try.st4 Try.ld41 Try.st41 Try.ld50 Try.st50 Try.ld40 Try.st40 Try.ld42 Try.st42 Try.ld89 Try.st89 Try.ld91 Try.st91 Try.ld56 Try.st56 Try.ld97 Try.st97 Try.ld98 Try.st98 Try.ld101 Try.st101 Try.ld104 Try.st104 Try.ld57 Try.st57 Try.ld130 Try.st130 Try.ld2 Try.st2 Try.ld5 Try.st5 Try.ld9 Try.st9 Try.ld12 Try.st12 Try.ld21 Try.st21 Try.ld22 Try.st22 Try.ld29 Try.st29 Try.ld33 Try.st33 Try.ld59 Try.st59 Try.ld62 Try.st62 Try.ld69 Try.st69 Try.ld94 Try.st94 Try.ld96 Try.st96 Try.ld129 Try.st129 Try.ld158 Try.st158 Try.ld162 Try.st162 Try.ld47 Try.st47 Try.ld44 Try.st44 Try.ld137 Try.st137 Try.ld145 Try.st145 Try.ld43 Try.st43 Try.ld27 Try.st27 Try.ld38 Try.st38 Try.ld46 Try.st46 Try.ld49 Try.st49 Try.ld52 Try.st52 Try.ld54 Try.st54 Try.ld61 Try.st61 Try.ld80 Try.st80 Try.ld87 Try.st87 Try.ld93 Try.st93 Try.ld100 Try.st100 Try.ld103 Try.st103 Try.ld106 Try.st106 Try.ld109 Try.st109 Try.ld132 Try.st132 Try.ld147 Try.st147 Try.al47 Try.al44 Try.al137 Try.al145 Try.al43 Try.al27 Try.al38 Try.al46 Try.al49 Try.al52 Try.al54 Try.al61 Try.al80 Try.al87 Try.al93 Try.al100 Try.al103 Try.al106 Try.al109 Try.al132 Try.al147
attribute [local go_sem] GProgram.length_enc GProgram.ok_enc GProgram.all_get GProgram.all_set GProgram.preds_get GProgram.preds_set GProgram.rules_get GProgram.rules_set GProgram.strata_get GProgram.strata_set Answer.length_enc Answer.ok_enc Answer.all_get Answer.all_set Answer.code_get Answer.code_set Answer.n_get Answer.n_set Answer.rows_get Answer.rows_set Term.length_enc Term.ok_enc Term.all_get Term.all_set Term.var_get Term.var_set Term.n_get Term.n_set Atom.length_enc Atom.ok_enc Atom.all_get Atom.all_set Atom.pred_get Atom.pred_set Atom.args_get Atom.args_set GRule.length_enc GRule.ok_enc GRule.all_get GRule.all_set GRule.head_get GRule.head_set GRule.body_get GRule.body_set GRule.head_pred_get GRule.head_pred_set GRule.head_args_get GRule.head_args_set GOp.length_enc GOp.ok_enc GOp.all_get GOp.all_set GOp.kind_get GOp.kind_set GOp.pred_get GOp.pred_set GOp.t_get GOp.t_set GOp.n_get GOp.n_set GOp.base_get GOp.base_set GOp.rule_get GOp.rule_set GOp.rule_head_get GOp.rule_head_set GOp.rule_body_get GOp.rule_body_set GOp.rule_head_pred_get GOp.rule_head_pred_set GOp.rule_head_args_get GOp.rule_head_args_set PredInfo.length_enc PredInfo.ok_enc PredInfo.all_get PredInfo.all_set PredInfo.arity_get PredInfo.arity_set PredInfo.base_get PredInfo.base_set PredInfo.stratum_get PredInfo.stratum_set GStats.length_enc GStats.ok_enc GStats.all_get GStats.all_set GStats.rounds_get GStats.rounds_set GStats.fired_get GStats.fired_set GStats.emitted_get GStats.emitted_set GStats.fresh_get GStats.fresh_set Literal.length_enc Literal.ok_enc Literal.all_get Literal.all_set Literal.neg_get Literal.neg_set Literal.atom_get Literal.atom_set Literal.atom_pred_get Literal.atom_pred_set Literal.atom_args_get Literal.atom_args_set Engine.length_enc Engine.ok_enc Engine.all_get Engine.all_set Engine.prog_get Engine.prog_set Engine.st_get Engine.st_set Engine.levels_get Engine.levels_set Engine.running_get Engine.running_set Engine.stratum_get Engine.stratum_set Engine.round_get Engine.round_set Engine.saved_get Engine.saved_set Engine.stats_get Engine.stats_set Engine.prog_preds_get Engine.prog_preds_set Engine.prog_rules_get Engine.prog_rules_set Engine.prog_strata_get Engine.prog_strata_set Engine.stats_rounds_get Engine.stats_rounds_set Engine.stats_fired_get Engine.stats_fired_set Engine.stats_emitted_get Engine.stats_emitted_set Engine.stats_fresh_get Engine.stats_fresh_set Level.length_enc Level.ok_enc Level.all_get Level.all_set Level.heads_get Level.heads_set Level.jobs_get Level.jobs_set Plan.length_enc Plan.ok_enc Plan.all_get Plan.all_set Plan.rule_get Plan.rule_set Plan.delta_get Plan.delta_set Plan.src_get Plan.src_set Job.length_enc Job.ok_enc Job.all_get Job.all_set Job.full_get Job.full_set Job.deltas_get Job.deltas_set Job.full_rule_get Job.full_rule_set Job.full_delta_get Job.full_delta_set Job.full_src_get Job.full_src_set GState.length_enc GState.ok_enc GState.all_get GState.all_set GState.prog_get GState.prog_set GState.base_get GState.base_set GState.shown_get GState.shown_set GState.prog_preds_get GState.prog_preds_set GState.prog_rules_get GState.prog_rules_set GState.prog_strata_get GState.prog_strata_set Store.length_enc Store.ok_enc Store.all_get Store.all_set Store.arity_get Store.arity_set Store.rows_get Store.rows_set Env.length_enc Env.ok_enc Env.all_get Env.all_set Env.val_get Env.val_set Env.set_get Env.set_set
attribute [local go_sem] size_put size_ext blk_put free_put blk_alloc free_alloc blk_drew free_drew blk_ext free_ext lookOr_some putOr_some segAt_some cellAt_some storeIn_some put_put put_alloc_new length_arr ok_arr_u8 ok_arr_u32 ok_arr_u64 ok_arr_i64 ok_arr_sl cellsV_agg cellsV_int cellsV_bool cellsV_string cellsV_pointer cellsV_slice cellsV_sl ok_int ok_bool ok_string ok_pointer ok_slice ok_sl toList_arr seg_arr set_arr nth_splice nth_splice0 seg_splice seg_splice0 splice_splice splice_splice0 length_splice_if
attribute [local go_sem ↓] execOp_box
attribute [local go_sem] box_run nth_arr_u8 put_arr_u8 blk_drewN free_drewN put_drewN blk_raw free_raw
attribute [local go_sem] prg_len prg0 prg1 prg2 prg_set0 prg_set1 prg_set2 prg_all prg_ok bslice97 bslice98 eng_len eng3 eng4 eng_set4 eng_set8 build93
attribute [local go_sem ↓] execOp_build execOp_bslice execOp_slice execOp_make
set_option maxRecDepth 20000 in
set_option maxHeartbeats 4000000 in
theorem new_any (w : World) (bP bR : Nat) (aP : Option Addr) (N cP : Nat) (aR : Option Addr) (M cR : Nat) (S : Int) (P : List PredInfo) (R : List GRule) (ba : Nat → Option Addr) (bn bc : Nat → Nat) (Ls : Nat → List Literal) (hI : Comps bP bR aP N aR M P R ba bn bc Ls w) (hN : N ≤ 64) (hM : M ≤ 128) (hS1 : 1 ≤ S) (hS2 : S ≤ 65) (hA : ∀ x ∈ P, 0 ≤ x.arity ∧ x.arity ≤ 4) :
    Calls Try.prog 11 #[.agg (prgE aP N cP aR M cR S).toArray] w (NewPost P R Ls S w) := by
  have HI : Hid (Comps bP bR aP N aR M P R ba bn bc Ls w) := hI
  have HA : Hid (∀ x ∈ P, 0 ≤ x.arity ∧ x.arity ≤ 4) := hA
  clear hI hA
  go_enter Try.func11, Try.ntmps11
  go_upto_region 1 with fail
  refine wp_world (fun W => blk W w.heap.size = some (prgE aP N cP aR M cR S) ∧ Hid (w.Extends W)) ⟨?_, extends_alloc (ext_Ext (Ext.refl w)) _⟩ ?_
  · rw [blk_alloc, if_pos rfl]
  rintro W0 ⟨hb0, HE0⟩
  obtain ⟨b1, hb1⟩ : ∃ b1, b1 = w.heap.size := ⟨_, rfl⟩
  rw [← hb1] at hb0 ⊢
  have hw1 : w.heap.size ≤ b1 := by omega
  clear hb1
  go_wp2_with fail
  refine (wellLayered_any W0 b1 bP bR aP N cP aR M cR S P R ba bn bc Ls (prIn_of HI.out HE0.out hb0) hN hM hS1 HA.out).mono ?_
  rintro e W1 ⟨b, rfl, hgood, he⟩
  have hx1 : blk W1 b1 = some (prgE aP N cP aR M cR S) := (he.blk (blk_lt hb0)).trans hb0
  have HE1 : Hid (w.Extends W1) := HE0.out.trans (ext_Ext he)
  clear he hb0 HE0
  cases b with
  | false =>
    have HNG : Hid (¬ Good P R Ls S) := fun h => absurd (hgood.2 h) (by decide)
    clear hgood
    go_wp2_with fail
    go_ret2
    exact ⟨_, _, rfl, fun h => absurd h HNG.out, fun _ => rfl, HE1.out⟩
  | true =>
  have HG : Hid (Good P R Ls S) := hgood.1 rfl
  clear hgood
  obtain ⟨Sn, rfl⟩ : ∃ Sn : Nat, S = (Sn : Int) := ⟨S.toNat, by omega⟩
  dsimp only
  repeat go_step
  refine wp_region_held_drew (S := fun W' => blk W' b1 = some (prgE aP N cP aR M cR (Sn : Int)) ∧ True) (by kernel_rfl) ⟨hx1, trivial⟩ (fun hHeld => ?_)
  have lb1 := blk_lt hx1
  have m1 : ¬ b1 = W1.heap.size := by omega
  have m1' : ¬ b1 = W1.heap.size + 1 := by omega
  refine wpAnyH_take (i := 0) (oi := ⟨_, _, _, _, _, _⟩) (v := ?_) rfl (by kernel_rfl) (by kernel_rfl) (by kernel_rfl) (fun _ _ _ h => h) (Or.inl ⟨by rfl, ?_⟩) (by assumption) ?_
  rotate_left 1
  · intro W' hSw
    obtain ⟨hS1, hS2⟩ := hSw
    go_simp
    try with_reducible rfl
  try simp only [Act.put, List.setIfInBounds_toArray, List.set_cons_zero, List.set_cons_succ]
  refine wpAnyH_ready (rs := [1]) (by kernel_rfl) (by simp) ?_
  refine AllReadyH.cons (o := ⟨_, _, _, _, _, _⟩) rfl (fun K' hK => ?_) AllReadyH.nil
  go_simp
  refine (newStore_any W1.drew).mono ?_
  rintro e W2 ⟨rfl, hW2⟩
  subst hW2
  dsimp only
  refine hK.out _ _ ⟨(blk_alloc _ _ _ _).trans ((if_neg m1).trans hx1), trivial⟩ (fun hHeld => ?_)
  clear hK K'
  try simp only [Act.put, List.setIfInBounds_toArray, List.set_cons_zero, List.set_cons_succ]
  refine wpAnyH_take (i := 2) (oi := ⟨_, _, _, _, _, _⟩) (v := ?_) rfl (by kernel_rfl) (by kernel_rfl) (by kernel_rfl) (fun _ _ _ h => h) (Or.inl ⟨by rfl, ?_⟩) (by assumption) ?_
  rotate_left 1
  · intro W' hSw
    obtain ⟨hS1, hS2⟩ := hSw
    go_simp
    try with_reducible rfl
  try simp only [Act.put, List.setIfInBounds_toArray, List.set_cons_zero, List.set_cons_succ]
  refine wpAnyH_ready (rs := [3]) (by kernel_rfl) (by simp) ?_
  refine AllReadyH.cons (o := ⟨_, _, _, _, _, _⟩) rfl (fun K' hK => ?_) AllReadyH.nil
  go_simp
  refine hK.out _ _ ⟨(blk_alloc _ _ _ _).trans ((if_neg (by rw [World.size_alloc]; exact m1')).trans ((blk_alloc _ _ _ _).trans ((if_neg m1).trans hx1))), trivial⟩ (fun hHeld => ?_)
  clear hK K'
  try simp only [Act.put, List.setIfInBounds_toArray, List.set_cons_zero, List.set_cons_succ]
  refine wpAnyH_take (i := 4) (oi := ⟨_, _, _, _, _, _⟩) (v := ?_) rfl (by kernel_rfl) (by kernel_rfl) (by kernel_rfl) (fun _ _ _ h => h) (Or.inl ⟨by rfl, ?_⟩) (by assumption) ?_
  rotate_left 1
  · intro W' hSw
    obtain ⟨hS1, hS2⟩ := hSw
    go_simp
    try with_reducible rfl
  try simp only [Act.put, List.setIfInBounds_toArray, List.set_cons_zero, List.set_cons_succ]
  refine wpAnyH_done (by kernel_rfl) ?_ _
  go_upto_region 4 with fail
  refine wp_world (fun W3 => blk W3 b1 = some (prgE aP N cP aR M cR (Sn : Int)) ∧ blk W3 W1.heap.size = some (stoE none 0 0 none 0 0) ∧ free W3 W1.heap.size = true ∧ blk W3 (W1.heap.size + 1) = some (engE (.slice aP N cP) (.slice aR M cR) (.int .i64 (Sn : Int)) (.pointer (some ⟨W1.heap.size, 0, none⟩)) (.slice none 0 0) (.slice none 0 0)) ∧ free W3 (W1.heap.size + 1) = true ∧ W3.heap.size = W1.heap.size + 2 ∧ w.Extends W3) ⟨?_, ?_, ?_, ?_, ?_, ?_, ?_⟩ ?_
  · rw [blk_drew, blk_alloc, if_neg (by rw [World.size_alloc]; omega), blk_alloc, if_neg m1]; exact hx1
  · rw [blk_drew, blk_alloc, if_neg (by rw [World.size_alloc]; omega), blk_alloc, if_pos rfl]
  · rw [free_drew, free_alloc, if_neg (by rw [World.size_alloc]; omega), free_alloc, if_pos rfl]
  · rw [blk_drew, blk_alloc, if_pos (by rw [World.size_alloc])]
  · rw [free_drew, free_alloc, if_pos (by rw [World.size_alloc])]
  · show ((W1.alloc _).alloc _).heap.size = _
    rw [World.size_alloc, World.size_alloc]
  · exact extends_drew (extends_alloc (extends_alloc HE1.out _) _)
  rintro W3 ⟨h1, h2, h3, h4, h5, h6, h7⟩
  obtain ⟨bst, hbst⟩ : ∃ bst, bst = W1.heap.size := ⟨_, rfl⟩
  obtain ⟨be, hbe⟩ : ∃ be, be = bst + 1 := ⟨_, rfl⟩
  rw [← hbst] at h2 h3 h4 h5
  rw [← hbst]
  rw [← hbe] at h4 h5
  rw [← hbe]
  have hwst : w.heap.size ≤ bst := by have := HE1.out.size; omega
  have hwbe : w.heap.size ≤ be := by omega
  have n1 : ¬ b1 = bst := by omega
  have n2 : ¬ b1 = be := by omega
  have n3 : ¬ bst = be := by omega
  have n3' : ¬ be = bst := by omega
  have s3 : be < W3.heap.size := by omega
  have H7 : Hid (w.Extends W3) := h7
  clear hHeld hx1 HE1 m1 m1' lb1 h7 h6 hbe hbst
  obtain ⟨C1, hC1l, hC1n, hmk1⟩ := make91 W3 Sn (by omega)
  have l1 := blk_lt h1
  have l2 := blk_lt h2
  have k1 : ¬ b1 = W3.heap.size := by omega
  have k2 : ¬ bst = W3.heap.size := by omega
  have k3 : ¬ be = W3.heap.size := by omega
  go_upto_region 5 with fail
  refine wp_world (fun W4 => blk W4 b1 = some (prgE aP N cP aR M cR (Sn : Int)) ∧ blk W4 bst = some (stoE none 0 0 none 0 0) ∧ free W4 bst = true ∧ blk W4 be = some (engE (.slice aP N cP) (.slice aR M cR) (.int .i64 (Sn : Int)) (.pointer (some ⟨bst, 0, none⟩)) (.slice (some ⟨W3.heap.size, 0, none⟩) Sn Sn) (.slice none 0 0)) ∧ free W4 be = true ∧ blk W4 W3.heap.size = some C1 ∧ free W4 W3.heap.size = true ∧ W4.heap.size = W3.heap.size + 1 ∧ w.Extends W4) ⟨?_, ?_, ?_, ?_, ?_, ?_, ?_, ?_, ?_⟩ ?_
  · rw [blk_put, if_neg n2, blk_alloc, if_neg k1]; exact h1
  · rw [blk_put, if_neg n3, blk_alloc, if_neg k2]; exact h2
  · rw [free_put, free_alloc, if_neg k2]; exact h3
  · rw [blk_put, if_pos rfl, blk_alloc, if_neg k3, h4]; rfl
  · rw [free_put, free_alloc, if_neg k3]; exact h5
  · rw [blk_put, if_neg (Ne.symm k3), blk_alloc, if_pos rfl]
  · rw [free_put, free_alloc, if_pos rfl]
  · rw [size_put, World.size_alloc]
  · exact (Side.put (D := fun k => k = be) (Side.refl _ _) rfl _).extends (extends_alloc H7.out _) (fun k hk => by rw [hk]; exact hwbe)
  rintro W4 ⟨g1, g2, g3, g4, g5, g6, g7, g8, g9⟩
  obtain ⟨bl, hbl⟩ : ∃ bl, bl = W3.heap.size := ⟨_, rfl⟩
  rw [← hbl] at g4 g6 g7 k1 k2 k3
  rw [← hbl]
  have hwbl : w.heap.size ≤ bl := by omega
  have k3' : ¬ bl = be := fun e => k3 e.symm
  have k2' : ¬ bl = bst := fun e => k2 e.symm
  have H9 : Hid (w.Extends W4) := g9
  have s4 : bl < W4.heap.size := by omega
  clear h1 h2 h3 h4 h5 H7 hmk1 l1 l2 g9 g8 s3 hbl
  obtain ⟨C2, hmk2⟩ := make56 W4 N (by omega)
  have l1 := blk_lt g1
  have l2 := blk_lt g2
  have l4 := blk_lt g4
  have j1 : ¬ b1 = W4.heap.size := by omega
  have j2 : ¬ bst = W4.heap.size := by omega
  have j3 : ¬ be = W4.heap.size := by omega
  have j4 : ¬ bl = W4.heap.size := by omega
  go_upto_region 6 with fail
  obtain ⟨Ec, hEc⟩ : ∃ Ec, Ec = engE (.slice aP N cP) (.slice aR M cR) (.int .i64 (Sn : Int)) (.pointer (some ⟨bst, 0, none⟩)) (.slice (some ⟨bl, 0, none⟩) Sn Sn) (.slice (some ⟨W4.heap.size, 0, none⟩) N N) := ⟨_, rfl⟩
  refine wp_world (fun W5 => blk W5 b1 = some (prgE aP N cP aR M cR (Sn : Int)) ∧ blk W5 bst = some (stoE none 0 0 none 0 0) ∧ free W5 bst = true ∧ blk W5 be = some Ec ∧ blk W5 bl = some C1 ∧ free W5 bl = true ∧ W5.heap.size = W4.heap.size + 1 ∧ w.Extends W5) ⟨?_, ?_, ?_, ?_, ?_, ?_, ?_, ?_⟩ ?_
  · rw [blk_put, if_neg n2, blk_alloc, if_neg j1]; exact g1
  · rw [blk_put, if_neg n3, blk_alloc, if_neg j2]; exact g2
  · rw [free_put, free_alloc, if_neg j2]; exact g3
  · rw [hEc, blk_put, if_pos rfl, blk_alloc, if_neg j3, g4]; rfl
  · rw [blk_put, if_neg k3', blk_alloc, if_neg j4]; exact g6
  · rw [free_put, free_alloc, if_neg j4]; exact g7
  · rw [size_put, World.size_alloc]
  · exact (Side.put (D := fun k => k = be) (Side.refl _ _) rfl _).extends (extends_alloc H9.out _) (fun k hk => by rw [hk]; exact hwbe)
  rintro W5 ⟨f1, f2, f3, f4, f5, f6, f7, f8⟩
  have e3 : nth Ec 3 = some (.pointer (some ⟨bst, 0, none⟩)) := by rw [hEc]; rfl
  have e4 : nth Ec 4 = some (.slice (some ⟨bl, 0, none⟩) Sn Sn) := by rw [hEc]; rfl
  have eL : Ec.length = 13 := by rw [hEc]; rfl
  obtain ⟨B, hB⟩ : ∃ B, B = W5.heap.size := ⟨_, rfl⟩
  have B1 : b1 < B := by omega
  have B2 : bst < B := by omega
  have B3 : be < B := by omega
  have B4 : bl < B := by omega
  have hwB : w.heap.size ≤ B := by omega
  have H0 : Hid (NI w b1 be bst bl B Sn (prgE aP N cP aR M cR (Sn : Int)) Ec (3 * 0) 0 W5) := ⟨f1, f4, ⟨none, 0, 0, none, 0, 0, f2, f3, WR.nil _ _ _ _ _, WR.nil _ _ _ _ _⟩, ⟨C1, f5, f6, hC1l, fun s hs => ⟨none, 0, 0, none, 0, 0, hC1n _ (by omega), hC1n _ (by omega), WR.nil _ _ _ _ _, WR.nil _ _ _ _ _⟩⟩, f8, by omega⟩
  have hwst' : w.heap.size ≤ bst := hwst
  have nb1l : ¬ b1 = bl := k1
  have nbel : ¬ be = bl := k3
  have nbsl : ¬ bst = bl := k2
  clear f1 f2 f3 f4 f5 f6 f7 f8 g1 g2 g3 g4 g5 g6 g7 H9 hmk2 l1 l2 l4 j1 j2 j3 j4 s4 hEc hB hC1l hC1n k1 k2 k3 hwst
  go_wp2_with fail
  refine wp_loop_f 119 (nwA w b1 be bst bl B Sn N (prgE aP N cP aR M cR (Sn : Int)) Ec) (fun f _ => N - (intOf (f 5)).toNat) rfl ?_ ?_
  · exact ⟨rfl, rfl, 0, by omega, rfl, H0⟩
  clear H0
  intro F W hrel
  obtain ⟨q1, q4, p, hp, q5, HQ⟩ := hrel
  have H5 : Hid (F 5 = .int .i64 (p : Nat)) := q5
  rw [frame119, q1, q4, q5]
  clear q1 q4 q5
  have hb1 := HQ.out.1
  by_cases hpN : p < N
  · go_wp2_with fail
    refine wp_loop_f 119 (nwB w b1 be bst bl B Sn p (prgE aP N cP aR M cR (Sn : Int)) Ec) (fun f _ => 3 - (intOf (f 6)).toNat) rfl ?_ ?_
    · exact ⟨rfl, rfl, rfl, 0, by omega, rfl, HQ⟩
    clear HQ hb1
    intro G V hrel
    obtain ⟨q1, q4, q5, kk, hkk, q6, HQ⟩ := hrel
    have H6 : Hid (G 6 = .int .i64 (kk : Nat)) := q6
    rw [frame119, q1, q4, q5, q6]
    clear q1 q4 q5 q6
    obtain ⟨hb1, hbe, hst, hlv, hext, hBW⟩ := HQ.out
    obtain ⟨x, C, hx, rfl, hC, hCl, hs⟩ := (HI.out.1.grow hext).get hpN
    rw [Nat.zero_add] at hs hCl
    have x0 : nth C (p * 3) = some (.int .i64 x.arity) := by have := nth_in hs (PredInfo.arity_get x) (by omega); simpa using this
    have x1 : nth C (p * 3 + 1) = some (.bool x.base) := nth_in hs (PredInfo.base_get x) (by omega)
    have x2 : nth C (p * 3 + 2) = some (.int .i64 x.stratum) := nth_in hs (PredInfo.stratum_get x) (by omega)
    have hwP : bP < w.heap.size := by obtain ⟨_, C', h1, _⟩ := HI.out.1.2 (by omega); exact blk_lt h1
    have hgs := HG.out.1 p x (by rw [HI.out.1.1]; exact hpN) hx
    obtain ⟨st, hst'⟩ : ∃ st : Nat, x.stratum = (st : Int) := ⟨x.stratum.toNat, by omega⟩
    rw [hst'] at x2
    have hstS : st < Sn := by omega
    have p0 : (0 : Int) ≤ (p : Int) := by omega
    have p1 : (p : Int) < (N : Int) := by omega
    have p2 : ((p : Int)).toNat = p := by omega
    have l3 : p * 3 + 3 ≤ C.length := by omega
    have lP := blk_lt hC
    have l1 := blk_lt hb1
    have lE := blk_lt hbe
    obtain ⟨xa, hxa⟩ : ∃ xa, xa = x.arity := ⟨_, rfl⟩
    obtain ⟨xb, hxb⟩ : ∃ xb, xb = x.base := ⟨_, rfl⟩
    rw [← hxa] at x0
    rw [← hxb] at x1
    have m1 : ¬ bP = bst := by omega
    clear hx hs hgs hst' hxa hxb hCl
    by_cases hk3 : kk < 3
    · have c3 : (kk : Int) < 3 := by omega
      clear x1 x2
      have HST : Hid (StoreOk B bst V (3 * p + kk)) := hst
      have HLV : Hid (LevOk B bl Sn V p) := hlv
      have HEX : Hid (w.Extends V) := hext
      clear hst hlv hext
      repeat go_step
      refine wp_region_held_drew (S := fun W' => blk W' be = some Ec ∧ blk W' b1 = some (prgE (some ⟨bP, 0, none⟩) N cP aR M cR (Sn : Int)) ∧ blk W' bP = some C) (by kernel_rfl) ⟨hbe, hb1, hC⟩ (fun hHeld => ?_)
      refine wpAnyH_take (i := 0) (oi := ⟨_, _, _, _, _, _⟩) (v := ?_) rfl (by kernel_rfl) (by kernel_rfl) (by kernel_rfl) (fun _ _ _ h => h) (Or.inl ⟨by rfl, ?_⟩) (by assumption) ?_
      rotate_left 1
      · intro W' hSw
        obtain ⟨hS1, hS2, hS3⟩ := hSw
        go_simp
        try with_reducible rfl
      try simp only [Act.put, List.setIfInBounds_toArray, List.set_cons_zero, List.set_cons_succ]
      refine wpAnyH_take (i := 1) (oi := ⟨_, _, _, _, _, _⟩) (v := ?_) rfl (by kernel_rfl) (by kernel_rfl) (by kernel_rfl) (fun _ _ _ h => h) (Or.inl ⟨by rfl, ?_⟩) (by assumption) ?_
      rotate_left 1
      · intro W' hSw
        obtain ⟨hS1, hS2, hS3⟩ := hSw
        go_simp
        try with_reducible rfl
      try simp only [Act.put, List.setIfInBounds_toArray, List.set_cons_zero, List.set_cons_succ]
      refine wpAnyH_take (i := 2) (oi := ⟨_, _, _, _, _, _⟩) (v := ?_) rfl (by kernel_rfl) (by kernel_rfl) (by kernel_rfl) (fun _ _ _ h => h) (Or.inl ⟨by rfl, ?_⟩) (by assumption) ?_
      rotate_left 1
      · intro W' hSw
        obtain ⟨hS1, hS2, hS3⟩ := hSw
        go_simp
        try with_reducible rfl
      try simp only [Act.put, List.setIfInBounds_toArray, List.set_cons_zero, List.set_cons_succ]
      refine wpAnyH_take (i := 3) (oi := ⟨_, _, _, _, _, _⟩) (v := ?_) rfl (by kernel_rfl) (by kernel_rfl) (by kernel_rfl) (fun _ _ _ h => h) (Or.inl ⟨by rfl, ?_⟩) (by assumption) ?_
      rotate_left 1
      · intro W' hSw
        obtain ⟨hS1, hS2, hS3⟩ := hSw
        go_simp
        try with_reducible rfl
      try simp only [Act.put, List.setIfInBounds_toArray, List.set_cons_zero, List.set_cons_succ]
      refine wpAnyH_take (i := 4) (oi := ⟨_, _, _, _, _, _⟩) (v := ?_) rfl (by kernel_rfl) (by kernel_rfl) (by kernel_rfl) (fun _ _ _ h => h) (Or.inl ⟨by rfl, ?_⟩) (by assumption) ?_
      rotate_left 1
      · intro W' hSw
        obtain ⟨hS1, hS2, hS3⟩ := hSw
        go_simp
        try with_reducible rfl
      try simp only [Act.put, List.setIfInBounds_toArray, List.set_cons_zero, List.set_cons_succ]
      refine wpAnyH_take (i := 5) (oi := ⟨_, _, _, _, _, _⟩) (v := ?_) rfl (by kernel_rfl) (by kernel_rfl) (by kernel_rfl) (fun _ _ _ h => h) (Or.inl ⟨by rfl, ?_⟩) (by assumption) ?_
      rotate_left 1
      · intro W' hSw
        obtain ⟨hS1, hS2, hS3⟩ := hSw
        go_simp
        try with_reducible rfl
      try simp only [Act.put, List.setIfInBounds_toArray, List.set_cons_zero, List.set_cons_succ]
      refine wpAnyH_take (i := 6) (oi := ⟨_, _, _, _, _, _⟩) (v := ?_) rfl (by kernel_rfl) (by kernel_rfl) (by kernel_rfl) (fun _ _ _ h => h) (Or.inl ⟨by rfl, ?_⟩) (by assumption) ?_
      rotate_left 1
      · intro W' hSw
        obtain ⟨hS1, hS2, hS3⟩ := hSw
        go_simp
        try with_reducible rfl
      try simp only [Act.put, List.setIfInBounds_toArray, List.set_cons_zero, List.set_cons_succ]
      refine wpAnyH_take (i := 7) (oi := ⟨_, _, _, _, _, _⟩) (v := ?_) rfl (by kernel_rfl) (by kernel_rfl) (by kernel_rfl) (fun _ _ _ h => h) (Or.inl ⟨by rfl, ?_⟩) (by assumption) ?_
      rotate_left 1
      · intro W' hSw
        obtain ⟨hS1, hS2, hS3⟩ := hSw
        go_simp
        try with_reducible rfl
      try simp only [Act.put, List.setIfInBounds_toArray, List.set_cons_zero, List.set_cons_succ]
      refine wpAnyH_take (i := 8) (oi := ⟨_, _, _, _, _, _⟩) (v := ?_) rfl (by kernel_rfl) (by kernel_rfl) (by kernel_rfl) (fun _ _ _ h => h) (Or.inl ⟨by rfl, ?_⟩) (by assumption) ?_
      rotate_left 1
      · intro W' hSw
        obtain ⟨hS1, hS2, hS3⟩ := hSw
        go_simp
        try with_reducible rfl
      try simp only [Act.put, List.setIfInBounds_toArray, List.set_cons_zero, List.set_cons_succ]
      refine wpAnyH_take (i := 9) (oi := ⟨_, _, _, _, _, _⟩) (v := ?_) rfl (by kernel_rfl) (by kernel_rfl) (by kernel_rfl) (fun _ _ _ h => h) (Or.inl ⟨by rfl, ?_⟩) (by assumption) ?_
      rotate_left 1
      · intro W' hSw
        obtain ⟨hS1, hS2, hS3⟩ := hSw
        go_simp
        try with_reducible rfl
      try simp only [Act.put, List.setIfInBounds_toArray, List.set_cons_zero, List.set_cons_succ]
      refine wpAnyH_ready (rs := [10]) (by kernel_rfl) (by simp) ?_
      refine AllReadyH.cons (o := ⟨_, _, _, _, _, _⟩) rfl (fun K' hK => ?_) AllReadyH.nil
      go_simp
      refine (define_any V.drew B bst (3 * p + kk) xa HST.out B2 hBW (by omega)).mono ?_
      rintro e V2 ⟨vv, rfl, hst2, hm2⟩
      have d1 : blk V2 be = some Ec := (hm2.blk lE B3 n3').trans hbe
      have d2 : blk V2 b1 = some (prgE (some ⟨bP, 0, none⟩) N cP aR M cR (Sn : Int)) := (hm2.blk l1 B1 n1).trans hb1
      have d3 : blk V2 bP = some C := (hm2.blk lP (by omega) m1).trans hC
      dsimp only
      refine hK.out _ _ ⟨d1, d2, d3⟩ (fun hHeld => ?_)
      clear hK K'
      try simp only [Act.put, List.setIfInBounds_toArray, List.set_cons_zero, List.set_cons_succ]
      refine wpAnyH_done (by kernel_rfl) ?_ _
      have HQ' : Hid (NI w b1 be bst bl B Sn (prgE (some ⟨bP, 0, none⟩) N cP aR M cR (Sn : Int)) Ec (3 * p + (kk + 1)) p V2) := ⟨d2, d1, hst2, LevOk.mor (D := fun k => k = bst) (show LevOk B bl Sn V.drew p from HLV.out) hm2 k2' B4, hm2.extends (extends_drew HEX.out) hwB (fun k hk => by rw [hk]; exact hwst'), Nat.le_trans hBW hm2.size⟩
      clear hst2 hm2 d1 d2 d3 HST HLV HEX HQ hb1 hbe hC
      go_wp2_with fail
      refine ⟨rfl, rfl, ⟨rfl, rfl, rfl, kk + 1, by omega, ?_, HQ'⟩, ?_⟩
      · show Value.int .i64 _ = _
        go_num
      · show 3 - (intOf (Value.int .i64 _)).toNat < 3 - (intOf (G 6)).toNat
        rw [H6.out]
        simp [intOf]; omega
    · obtain rfl : kk = 3 := by omega
      clear x0
      cases xb with
      | true =>
        have HQ' : Hid (NI w b1 be bst bl B Sn (prgE (some ⟨bP, 0, none⟩) N cP aR M cR (Sn : Int)) Ec (3 * (p + 1)) (p + 1) V) := ⟨hb1, hbe, by rw [Nat.mul_add]; exact hst, hlv.mono (by omega), hext, hBW⟩
        clear hst hlv hext HQ
        go_wp2_with fail
        refine ⟨rfl, rfl, ⟨rfl, rfl, p + 1, by omega, ?_, HQ'⟩, ?_⟩
        · show Value.int .i64 _ = _
          go_num
        · show N - (intOf (Value.int .i64 _)).toNat < N - (intOf (F 5)).toNat
          rw [H5.out]
          simp [intOf]; omega
      | false =>
        have t0 : (0 : Int) ≤ (st : Int) := by omega
        have t1 : (st : Int) < (Sn : Int) := by omega
        have t2 : ((st : Int)).toNat = st := by omega
        clear hst hlv hext
        repeat go_step
        go_quiet (fail)
        go_upto_region 15 with fail
        refine wp_world (fun W2 => Hid (NI w b1 be bst bl B Sn (prgE (some ⟨bP, 0, none⟩) N cP aR M cR (Sn : Int)) Ec (3 * p + 3) p W2)) (HQ.out.drewN _) ?_
        rintro W2 HQ2
        clear HQ hb1 hbe hC hBW l1 lE lP
        obtain ⟨hb1, hbe, hst, hlv, hext, hBW⟩ := HQ2.out
        obtain ⟨LC, hLC, hLf, hLl, hLs⟩ := hlv
        obtain ⟨a1, n1', c1, a2, n2', c2, v1, v2, w1, w2⟩ := hLs st hstS
        have lL := blk_lt hLC
        have nL : ¬ bl = W2.heap.size := by omega
        have l6 : st * 2 + 1 ≤ LC.length := by omega
        have mm : Mor (fun _ => False) B W2 (W2.alloc (.cells (encI (p : Int)).toArray 41)) := Mor.of_extends (extends_alloc (ext_Ext (Ext.refl _)) _)
        obtain ⟨a', n', c', W4, hrun, hw', hm4⟩ := appW 1 8 97 41 Try.underlying97 info41 (by omega) (by omega) B (W2.alloc (.cells (encI (p : Int)).toArray 41)) 97 _ p (w1.mor mm) (by omega) W2.heap.size (encI (p : Int)) rfl rfl ((blk_alloc _ _ _ _).trans (if_pos rfl)) (Nat.le_trans hBW mm.size)
        have mt : Mor (fun _ => False) B W2 W4 := mm.trans hm4
        have hLC4 : blk W4 bl = some LC := (mt.blk lL B4 (fun h => h)).trans hLC
        have hLf4 : free W4 bl = true := (mt.free lL B4 (fun h => h)).trans hLf
        have mp : Mor (fun k => k = bl) B W4 (put W4 bl (splice LC (st * 2) [.slice a' n' c'])) := Mor.put (D := fun k => k = bl) (Mor.refl _ _ _) rfl B4 _
        have mq : Mor (fun k => k = bl) B W2 (put W4 bl (splice LC (st * 2) [.slice a' n' c'])) := (mt.mono (fun k h => h.elim)).trans mp
        have HQ' : Hid (NI w b1 be bst bl B Sn (prgE (some ⟨bP, 0, none⟩) N cP aR M cR (Sn : Int)) Ec (3 * (p + 1)) (p + 1) (put W4 bl (splice LC (st * 2) [.slice a' n' c']))) := by
          refine ⟨(mq.blk (blk_lt hb1) B1 nb1l).trans hb1, (mq.blk (blk_lt hbe) B3 nbel).trans hbe, ?_, ?_, mq.extends hext hwB (fun k hk => by rw [hk]; exact hwbl), Nat.le_trans hBW mq.size⟩
          · obtain ⟨a1, n1, c1, a2, n2, c2, s1, s2, s3, s4⟩ := hst
            exact ⟨a1, n1, c1, a2, n2, c2, (mq.blk (blk_lt s1) B2 nbsl).trans s1, (mq.free (blk_lt s1) B2 nbsl).trans s2, (s3.mor mq).mono (by omega), (s4.mor mq).mono (by omega)⟩
          · exact LevOk.set ((LevOk.mono (LevOk.mor (c := p) ⟨LC, hLC, hLf, hLl, hLs⟩ mt (fun h => h) B4) (by omega))) B4 hLC4 hstS (.inl rfl) (fun _ => hw') (fun h => by omega)
        clear mm mt mp mq hm4 hw' w1 w2 hst hext HQ2 hb1 hbe hLs
        go_wp2_with (at_builtin; refine wpList_append_run rfl _ _ 97 rfl _ _ _ _ rfl rfl hrun ?_)
        refine ⟨rfl, rfl, ⟨rfl, rfl, p + 1, by omega, ?_, HQ'⟩, ?_⟩
        · show Value.int .i64 _ = _
          go_num
        · show N - (intOf (Value.int .i64 _)).toNat < N - (intOf (F 5)).toNat
          rw [H5.out]
          simp [intOf]; omega
  obtain rfl : p = N := by omega
  go_wp2_with fail
  refine wp_loop_f 119 (nwC w b1 be bst bl B Sn p M (prgE aP p cP aR M cR (Sn : Int)) Ec) (fun f _ => M - (intOf (f 8)).toNat) rfl ?_ ?_
  · exact ⟨rfl, rfl, 0, by omega, rfl, HQ⟩
  clear HQ hb1 H5
  intro F W hrel
  obtain ⟨q1, q4, n, hn, q8, HQ⟩ := hrel
  have H8 : Hid (F 8 = .int .i64 (n : Nat)) := q8
  rw [frame119, q1, q4, q8]
  clear q1 q4 q8
  obtain ⟨hb1, hbe, hst, hlv, hext, hBW⟩ := HQ.out
  by_cases hnM : n < M
  · obtain ⟨r, hr⟩ : ∃ r, R[n]? = some r := by obtain ⟨r, _, h, _⟩ := HI.out.2.1.get hnM; exact ⟨r, h⟩
    obtain ⟨bL, oL, hsv, hL, hwf⟩ := HI.out.2.2 n r hr
    obtain ⟨_, ⟨z0, z1⟩, _, _⟩ := hwf
    obtain ⟨h, hh⟩ : ∃ h : Nat, r.head.pred = (h : Int) := ⟨r.head.pred.toNat, by omega⟩
    have hhN : h < p := by omega
    obtain ⟨CR, rfl, hCR, hCRl, c0, _⟩ := rule_at (HI.out.2.1.grow hext) hnM hr hsv hh
    obtain ⟨y, C, hy, rfl, hC, hCl, hs⟩ := (HI.out.1.grow hext).get hhN
    rw [Nat.zero_add] at hs hCl
    have y2 : nth C (h * 3 + 2) = some (.int .i64 y.stratum) := nth_in hs (PredInfo.stratum_get y) (by omega)
    have hgs := HG.out.1 h y (by rw [HI.out.1.1]; exact hhN) hy
    obtain ⟨st, hst'⟩ : ∃ st : Nat, y.stratum = (st : Int) := ⟨y.stratum.toNat, by omega⟩
    rw [hst'] at y2
    have hstS : st < Sn := by omega
    have n0 : (0 : Int) ≤ (n : Int) := by omega
    have n1'' : (n : Int) < (M : Int) := by omega
    have n2'' : ((n : Int)).toNat = n := by omega
    have h0 : (0 : Int) ≤ (h : Int) := by omega
    have h1 : (h : Int) < (p : Int) := by omega
    have h2 : ((h : Int)).toNat = h := by omega
    have t0 : (0 : Int) ≤ (st : Int) := by omega
    have t1 : (st : Int) < (Sn : Int) := by omega
    have t2 : ((st : Int)).toNat = st := by omega
    have l3 : h * 3 + 3 ≤ C.length := by omega
    clear hr hsv hL z0 z1 hh hy hs hgs hst' hCl hst hlv hext
    repeat go_step
    go_quiet (fail)
    go_upto_region 20 with fail
    refine wp_world (fun W2 => Hid (NI w b1 be bst bl B Sn (prgE (some ⟨bP, 0, none⟩) p cP (some ⟨bR, 0, none⟩) M cR (Sn : Int)) Ec (3 * p) (p + n) W2)) (HQ.out.drewN _) ?_
    rintro W2 HQ2
    clear HQ hb1 hbe hC hCR hBW c0 y2
    obtain ⟨hb1, hbe, hst, hlv, hext, hBW⟩ := HQ2.out
    obtain ⟨LC, hLC, hLf, hLl, hLs⟩ := hlv
    obtain ⟨a1, n1', c1, a2, n2', c2, v1, v2, w1, w2⟩ := hLs st hstS
    have HW2 : Hid (WR B 106 4 W2 (.slice a2 n2' c2) (p + n)) := w2
    have HST : Hid (StoreOk B bst W2 (3 * p)) := hst
    have HLV : Hid (LevOk B bl Sn W2 (p + n)) := ⟨LC, hLC, hLf, hLl, hLs⟩
    have HEX : Hid (w.Extends W2) := hext
    have lL := blk_lt hLC
    have lE := blk_lt hbe
    have l1 := blk_lt hb1
    have l6 : st * 2 + 2 ≤ LC.length := by omega
    have l7 : st * 2 + 1 + 1 ≤ LC.length := by omega
    clear hst hLs w1 w2 hext v1 HQ2 hLl
    repeat go_step
    refine wp_region_held_drew (S := fun W' => blk W' be = some Ec ∧ True) (by kernel_rfl) ⟨hbe, trivial⟩ (fun hHeld => ?_)
    refine wpAnyH_take (i := 0) (oi := ⟨_, _, _, _, _, _⟩) (v := ?_) rfl (by kernel_rfl) (by kernel_rfl) (by kernel_rfl) (fun _ _ _ h => h) (Or.inl ⟨by rfl, ?_⟩) (by assumption) ?_
    rotate_left 1
    · intro W' hSw
      obtain ⟨hS1, hS2⟩ := hSw
      go_simp
      try with_reducible rfl
    try simp only [Act.put, List.setIfInBounds_toArray, List.set_cons_zero, List.set_cons_succ]
    refine wpAnyH_take (i := 1) (oi := ⟨_, _, _, _, _, _⟩) (v := ?_) rfl (by kernel_rfl) (by kernel_rfl) (by kernel_rfl) (fun _ _ _ h => h) (Or.inl ⟨by rfl, ?_⟩) (by assumption) ?_
    rotate_left 1
    · intro W' hSw
      obtain ⟨hS1, hS2⟩ := hSw
      go_simp
      try with_reducible rfl
    try simp only [Act.put, List.setIfInBounds_toArray, List.set_cons_zero, List.set_cons_succ]
    refine wpAnyH_take (i := 2) (oi := ⟨_, _, _, _, _, _⟩) (v := ?_) rfl (by kernel_rfl) (by kernel_rfl) (by kernel_rfl) (fun _ _ _ h => h) (Or.inl ⟨by rfl, ?_⟩) (by assumption) ?_
    rotate_left 1
    · intro W' hSw
      obtain ⟨hS1, hS2⟩ := hSw
      go_simp
      try with_reducible rfl
    try simp only [Act.put, List.setIfInBounds_toArray, List.set_cons_zero, List.set_cons_succ]
    refine wpAnyH_take (i := 3) (oi := ⟨_, _, _, _, _, _⟩) (v := ?_) rfl (by kernel_rfl) (by kernel_rfl) (by kernel_rfl) (fun _ _ _ h => h) (Or.inl ⟨by rfl, ?_⟩) (by assumption) ?_
    rotate_left 1
    · intro W' hSw
      obtain ⟨hS1, hS2⟩ := hSw
      go_simp
      try with_reducible rfl
    try simp only [Act.put, List.setIfInBounds_toArray, List.set_cons_zero, List.set_cons_succ]
    refine wpAnyH_take (i := 4) (oi := ⟨_, _, _, _, _, _⟩) (v := ?_) rfl (by kernel_rfl) (by kernel_rfl) (by kernel_rfl) (fun _ _ _ h => h) (Or.inl ⟨by rfl, ?_⟩) (by assumption) ?_
    rotate_left 1
    · intro W' hSw
      obtain ⟨hS1, hS2⟩ := hSw
      go_simp
      try with_reducible rfl
    try simp only [Act.put, List.setIfInBounds_toArray, List.set_cons_zero, List.set_cons_succ]
    refine wpAnyH_take (i := 5) (oi := ⟨_, _, _, _, _, _⟩) (v := ?_) rfl (by kernel_rfl) (by kernel_rfl) (by kernel_rfl) (fun _ _ _ h => h) (Or.inl ⟨by rfl, ?_⟩) (by assumption) ?_
    rotate_left 1
    · intro W' hSw
      obtain ⟨hS1, hS2⟩ := hSw
      go_simp
      try with_reducible rfl
    try simp only [Act.put, List.setIfInBounds_toArray, List.set_cons_zero, List.set_cons_succ]
    refine wpAnyH_take (i := 6) (oi := ⟨_, _, _, _, _, _⟩) (v := ?_) rfl (by kernel_rfl) (by kernel_rfl) (by kernel_rfl) (fun _ _ _ h => h) (Or.inl ⟨by rfl, ?_⟩) (by assumption) ?_
    rotate_left 1
    · intro W' hSw
      obtain ⟨hS1, hS2⟩ := hSw
      go_simp
      try with_reducible rfl
    try simp only [Act.put, List.setIfInBounds_toArray, List.set_cons_zero, List.set_cons_succ]
    refine wpAnyH_take (i := 7) (oi := ⟨_, _, _, _, _, _⟩) (v := ?_) rfl (by kernel_rfl) (by kernel_rfl) (by kernel_rfl) (fun _ _ _ h => h) (Or.inl ⟨by rfl, ?_⟩) (by assumption) ?_
    rotate_left 1
    · intro W' hSw
      obtain ⟨hS1, hS2⟩ := hSw
      go_simp
      try with_reducible rfl
    try simp only [Act.put, List.setIfInBounds_toArray, List.set_cons_zero, List.set_cons_succ]
    refine wpAnyH_take (i := 8) (oi := ⟨_, _, _, _, _, _⟩) (v := ?_) rfl (by kernel_rfl) (by kernel_rfl) (by kernel_rfl) (fun _ _ _ h => h) (Or.inl ⟨by rfl, ?_⟩) (by assumption) ?_
    rotate_left 1
    · intro W' hSw
      obtain ⟨hS1, hS2⟩ := hSw
      go_simp
      try with_reducible rfl
    try simp only [Act.put, List.setIfInBounds_toArray, List.set_cons_zero, List.set_cons_succ]
    refine wpAnyH_take (i := 9) (oi := ⟨_, _, _, _, _, _⟩) (v := ?_) rfl (by kernel_rfl) (by kernel_rfl) (by kernel_rfl) (fun _ _ _ h => h) (Or.inl ⟨by rfl, ?_⟩) (by assumption) ?_
    rotate_left 1
    · intro W' hSw
      obtain ⟨hS1, hS2⟩ := hSw
      go_simp
      try with_reducible rfl
    try simp only [Act.put, List.setIfInBounds_toArray, List.set_cons_zero, List.set_cons_succ]
    refine wpAnyH_take (i := 10) (oi := ⟨_, _, _, _, _, _⟩) (v := ?_) rfl (by kernel_rfl) (by kernel_rfl) (by kernel_rfl) (fun _ _ _ h => h) (Or.inl ⟨by rfl, ?_⟩) (by assumption) ?_
    rotate_left 1
    · intro W' hSw
      obtain ⟨hS1, hS2⟩ := hSw
      go_simp
      try with_reducible rfl
    try simp only [Act.put, List.setIfInBounds_toArray, List.set_cons_zero, List.set_cons_succ]
    refine wpAnyH_take (i := 11) (oi := ⟨_, _, _, _, _, _⟩) (v := ?_) rfl (by kernel_rfl) (by kernel_rfl) (by kernel_rfl) (fun _ _ _ h => h) (Or.inl ⟨by rfl, ?_⟩) (by assumption) ?_
    rotate_left 1
    · intro W' hSw
      obtain ⟨hS1, hS2⟩ := hSw
      go_simp
      try with_reducible rfl
    try simp only [Act.put, List.setIfInBounds_toArray, List.set_cons_zero, List.set_cons_succ]
    refine wpAnyH_take (i := 13) (oi := ⟨_, _, _, _, _, _⟩) (v := ?_) rfl (by kernel_rfl) (by kernel_rfl) (by kernel_rfl) (fun _ _ _ h => h) (Or.inl ⟨by rfl, ?_⟩) (by assumption) ?_
    rotate_left 1
    · intro W' hSw
      obtain ⟨hS1, hS2⟩ := hSw
      go_simp
      try with_reducible rfl
    try simp only [Act.put, List.setIfInBounds_toArray, List.set_cons_zero, List.set_cons_succ]
    refine wpAnyH_take (i := 14) (oi := ⟨_, _, _, _, _, _⟩) (v := ?_) rfl (by kernel_rfl) (by kernel_rfl) (by kernel_rfl) (fun _ _ _ h => h) (Or.inl ⟨by rfl, ?_⟩) (by assumption) ?_
    rotate_left 1
    · intro W' hSw
      obtain ⟨hS1, hS2⟩ := hSw
      go_simp
      try with_reducible rfl
    try simp only [Act.put, List.setIfInBounds_toArray, List.set_cons_zero, List.set_cons_succ]
    refine wpAnyH_ready (rs := [12, 15]) (by kernel_rfl) (by simp) ?_
    refine AllReadyH.cons (o := ⟨_, _, _, _, _, _⟩) rfl (fun K' hK => ?_) (AllReadyH.cons (o := ⟨_, _, _, _, _, _⟩) rfl (fun K' hK => ?_) AllReadyH.nil)
    · go_simp
      refine hK.out _ _ ⟨hbe, trivial⟩ (fun hHeld => ?_)
      clear hK K'
      try simp only [Act.put, List.setIfInBounds_toArray, List.set_cons_zero, List.set_cons_succ]
      refine wpAnyH_ready (rs := [15]) (by kernel_rfl) (by simp) ?_
      refine AllReadyH.cons (o := ⟨_, _, _, _, _, _⟩) rfl (fun K' hK => ?_) AllReadyH.nil
      go_simp
      refine (makeJob_any W2.drew b1 bP bR (some ⟨bP, 0, none⟩) p cP (some ⟨bR, 0, none⟩) M cR (Sn : Int) P R ba bn bc Ls (prIn_of HI.out (extends_drew HEX.out) hb1) hN hM n hnM (st : Int)).mono ?_
      rintro e Wj ⟨J, rfl, hej⟩
      have dE : blk Wj be = some Ec := (hej.blk lE).trans hbe
      have dL : blk Wj bl = some LC := (hej.blk lL).trans hLC
      have dF : free Wj bl = true := (free_of_heap (hej.block bl lL)).trans hLf
      have lLj := blk_lt dL
      have lEj := blk_lt dE
      have nLj : ¬ bl = Wj.heap.size := by omega
      have nEj : ¬ be = Wj.heap.size := by omega
      have HEJ : Hid (W2.drew.Extends Wj) := hej
      clear hej
      dsimp only
      refine hK.out _ _ ⟨dE, trivial⟩ (fun hHeld => ?_)
      clear hK K'
      try simp only [Act.put, List.setIfInBounds_toArray, List.set_cons_zero, List.set_cons_succ]
      refine wpAnyH_ready (rs := [16]) (by kernel_rfl) (by simp) ?_
      refine AllReadyH.cons (o := ⟨_, _, _, _, _, _⟩) rfl (fun K' hK => ?_) AllReadyH.nil
      go_simp
      refine hK.out _ _ ⟨(blk_alloc _ _ _ _).trans ((if_neg nEj).trans dE), trivial⟩ (fun hHeld => ?_)
      clear hK K'
      try simp only [Act.put, List.setIfInBounds_toArray, List.set_cons_zero, List.set_cons_succ]
      refine wpAnyH_ready (rs := [17]) (by kernel_rfl) (by simp) ?_
      refine AllReadyH.cons (o := ⟨_, _, _, _, _, _⟩) rfl (fun K' hK => ?_) AllReadyH.nil
      have mj : Mor (fun _ => False) B W2 Wj := Mor.of_extends ((extends_drew (ext_Ext (Ext.refl W2))).trans HEJ.out)
      have mm : Mor (fun _ => False) B Wj (Wj.alloc (.cells J.enc.toArray 106)) := Mor.of_extends (extends_alloc (ext_Ext (Ext.refl _)) _)
      obtain ⟨a', n', c', W4, hrun, hw', hm4⟩ := appW 4 64 98 106 Try.underlying98 info106 (by omega) (by omega) B (Wj.alloc (.cells J.enc.toArray 106)) 98 _ (p + n) ((HW2.out.mor mj).mor mm) (by omega) Wj.heap.size J.enc (Job.length_enc J) (Job.one_enc J) ((blk_alloc _ _ _ _).trans (if_pos rfl)) (Nat.le_trans (Nat.le_trans hBW mj.size) mm.size)
      have mt : Mor (fun _ => False) B W2 W4 := (mj.trans mm).trans hm4
      have hLC4 : blk W4 bl = some LC := (mt.blk lL B4 (fun h => h)).trans hLC
      have hLf4 : free W4 bl = true := (mt.free lL B4 (fun h => h)).trans hLf
      have hE4 : blk W4 be = some Ec := (mt.blk lE B3 (fun h => h)).trans hbe
      have mp : Mor (fun k => k = bl) B W4 (put W4 bl (splice LC (st * 2 + 1) [.slice a' n' c'])) := Mor.put (D := fun k => k = bl) (Mor.refl _ _ _) rfl B4 _
      have mq : Mor (fun k => k = bl) B W2 (put W4 bl (splice LC (st * 2 + 1) [.slice a' n' c'])) := (mt.mono (fun k h => h.elim)).trans mp
      have HQ' : Hid (NI w b1 be bst bl B Sn (prgE (some ⟨bP, 0, none⟩) p cP (some ⟨bR, 0, none⟩) M cR (Sn : Int)) Ec (3 * p) (p + (n + 1)) (put W4 bl (splice LC (st * 2 + 1) [.slice a' n' c']))) := by
        refine ⟨(mq.blk l1 B1 nb1l).trans hb1, (mq.blk lE B3 nbel).trans hbe, ?_, ?_, mq.extends HEX.out hwB (fun k hk => by rw [hk]; exact hwbl), Nat.le_trans hBW mq.size⟩
        · obtain ⟨a1, n1, c1, a2, n2, c2, s1, s2, s3, s4⟩ := HST.out
          exact ⟨a1, n1, c1, a2, n2, c2, (mq.blk (blk_lt s1) B2 nbsl).trans s1, (mq.free (blk_lt s1) B2 nbsl).trans s2, s3.mor mq, s4.mor mq⟩
        · exact LevOk.set ((LevOk.mono (LevOk.mor HLV.out mt (fun h => h) B4) (by omega))) B4 hLC4 hstS (.inr rfl) (fun h => by omega) (fun _ => hw')
      rw [if_pos (by rfl)]
      refine wp_append_run _ _ 98 rfl _ _ _ _ rfl rfl hrun ?_
      clear mj mm mt mp mq hm4 hw' hrun
      refine hK.out _ _ ⟨hE4, trivial⟩ (fun hHeld => ?_)
      clear hK K'
      try simp only [Act.put, List.setIfInBounds_toArray, List.set_cons_zero, List.set_cons_succ]
      refine wpAnyH_take (i := 18) (oi := ⟨_, _, _, _, _, _⟩) (v := ?_) rfl (by kernel_rfl) (by kernel_rfl) (by kernel_rfl) (fun _ _ _ h => h) (Or.inl ⟨by rfl, ?_⟩) (by assumption) ?_
      rotate_left 1
      · intro W' hSw
        obtain ⟨hS1, hS2⟩ := hSw
        go_simp
        try with_reducible rfl
      try simp only [Act.put, List.setIfInBounds_toArray, List.set_cons_zero, List.set_cons_succ]
      refine wpAnyH_take (i := 19) (oi := ⟨_, _, _, _, _, _⟩) (v := ?_) rfl (by kernel_rfl) (by kernel_rfl) (by kernel_rfl) (fun _ _ _ h => h) (Or.inl ⟨by rfl, ?_⟩) (by assumption) ?_
      rotate_left 1
      · intro W' hSw
        obtain ⟨hS1, hS2⟩ := hSw
        go_simp
        try with_reducible rfl
      try simp only [Act.put, List.setIfInBounds_toArray, List.set_cons_zero, List.set_cons_succ]
      refine wpAnyH_ready (rs := [20]) (by kernel_rfl) (by simp) ?_
      refine AllReadyH.cons (o := ⟨_, _, _, _, _, _⟩) rfl (fun K' hK => ?_) AllReadyH.nil
      go_simp
      refine hK.out _ _ ?_ (fun hHeld => ?_)
      · refine ⟨?_, trivial⟩
        rw [blk_put, if_neg nbel]; exact hE4
      clear hK K'
      try simp only [Act.put, List.setIfInBounds_toArray, List.set_cons_zero, List.set_cons_succ]
      refine wpAnyH_done (by kernel_rfl) ?_ _
      clear hLC hLf hbe hb1 dE dL dF
      go_wp2_with fail
      refine ⟨rfl, rfl, ⟨rfl, rfl, n + 1, by omega, ?_, HQ'⟩, ?_⟩
      · show Value.int .i64 _ = _
        go_num
      · show M - (intOf (Value.int .i64 _)).toNat < M - (intOf (F 8)).toNat
        rw [H8.out]
        simp [intOf]; omega
    · go_simp
      refine (makeJob_any W2.drew b1 bP bR (some ⟨bP, 0, none⟩) p cP (some ⟨bR, 0, none⟩) M cR (Sn : Int) P R ba bn bc Ls (prIn_of HI.out (extends_drew HEX.out) hb1) hN hM n hnM (st : Int)).mono ?_
      rintro e Wj ⟨J, rfl, hej⟩
      have dE : blk Wj be = some Ec := (hej.blk lE).trans hbe
      have dL : blk Wj bl = some LC := (hej.blk lL).trans hLC
      have dF : free Wj bl = true := (free_of_heap (hej.block bl lL)).trans hLf
      have lLj := blk_lt dL
      have lEj := blk_lt dE
      have nLj : ¬ bl = Wj.heap.size := by omega
      have nEj : ¬ be = Wj.heap.size := by omega
      have HEJ : Hid (W2.drew.Extends Wj) := hej
      clear hej
      dsimp only
      refine hK.out _ _ ⟨dE, trivial⟩ (fun hHeld => ?_)
      clear hK K'
      try simp only [Act.put, List.setIfInBounds_toArray, List.set_cons_zero, List.set_cons_succ]
      refine wpAnyH_ready (rs := [12, 16]) (by kernel_rfl) (by simp) ?_
      refine AllReadyH.cons (o := ⟨_, _, _, _, _, _⟩) rfl (fun K' hK => ?_) (AllReadyH.cons (o := ⟨_, _, _, _, _, _⟩) rfl (fun K' hK => ?_) AllReadyH.nil)
      · go_simp
        refine hK.out _ _ ⟨dE, trivial⟩ (fun hHeld => ?_)
        clear hK K'
        try simp only [Act.put, List.setIfInBounds_toArray, List.set_cons_zero, List.set_cons_succ]
        refine wpAnyH_ready (rs := [16]) (by kernel_rfl) (by simp) ?_
        refine AllReadyH.cons (o := ⟨_, _, _, _, _, _⟩) rfl (fun K' hK => ?_) AllReadyH.nil
        go_simp
        refine hK.out _ _ ⟨(blk_alloc _ _ _ _).trans ((if_neg nEj).trans dE), trivial⟩ (fun hHeld => ?_)
        clear hK K'
        try simp only [Act.put, List.setIfInBounds_toArray, List.set_cons_zero, List.set_cons_succ]
        refine wpAnyH_ready (rs := [17]) (by kernel_rfl) (by simp) ?_
        refine AllReadyH.cons (o := ⟨_, _, _, _, _, _⟩) rfl (fun K' hK => ?_) AllReadyH.nil
        have mj : Mor (fun _ => False) B W2 Wj := Mor.of_extends ((extends_drew (ext_Ext (Ext.refl W2))).trans HEJ.out)
        have mm : Mor (fun _ => False) B Wj (Wj.alloc (.cells J.enc.toArray 106)) := Mor.of_extends (extends_alloc (ext_Ext (Ext.refl _)) _)
        obtain ⟨a', n', c', W4, hrun, hw', hm4⟩ := appW 4 64 98 106 Try.underlying98 info106 (by omega) (by omega) B (Wj.alloc (.cells J.enc.toArray 106)) 98 _ (p + n) ((HW2.out.mor mj).mor mm) (by omega) Wj.heap.size J.enc (Job.length_enc J) (Job.one_enc J) ((blk_alloc _ _ _ _).trans (if_pos rfl)) (Nat.le_trans (Nat.le_trans hBW mj.size) mm.size)
        have mt : Mor (fun _ => False) B W2 W4 := (mj.trans mm).trans hm4
        have hLC4 : blk W4 bl = some LC := (mt.blk lL B4 (fun h => h)).trans hLC
        have hLf4 : free W4 bl = true := (mt.free lL B4 (fun h => h)).trans hLf
        have hE4 : blk W4 be = some Ec := (mt.blk lE B3 (fun h => h)).trans hbe
        have mp : Mor (fun k => k = bl) B W4 (put W4 bl (splice LC (st * 2 + 1) [.slice a' n' c'])) := Mor.put (D := fun k => k = bl) (Mor.refl _ _ _) rfl B4 _
        have mq : Mor (fun k => k = bl) B W2 (put W4 bl (splice LC (st * 2 + 1) [.slice a' n' c'])) := (mt.mono (fun k h => h.elim)).trans mp
        have HQ' : Hid (NI w b1 be bst bl B Sn (prgE (some ⟨bP, 0, none⟩) p cP (some ⟨bR, 0, none⟩) M cR (Sn : Int)) Ec (3 * p) (p + (n + 1)) (put W4 bl (splice LC (st * 2 + 1) [.slice a' n' c']))) := by
          refine ⟨(mq.blk l1 B1 nb1l).trans hb1, (mq.blk lE B3 nbel).trans hbe, ?_, ?_, mq.extends HEX.out hwB (fun k hk => by rw [hk]; exact hwbl), Nat.le_trans hBW mq.size⟩
          · obtain ⟨a1, n1, c1, a2, n2, c2, s1, s2, s3, s4⟩ := HST.out
            exact ⟨a1, n1, c1, a2, n2, c2, (mq.blk (blk_lt s1) B2 nbsl).trans s1, (mq.free (blk_lt s1) B2 nbsl).trans s2, s3.mor mq, s4.mor mq⟩
          · exact LevOk.set ((LevOk.mono (LevOk.mor HLV.out mt (fun h => h) B4) (by omega))) B4 hLC4 hstS (.inr rfl) (fun h => by omega) (fun _ => hw')
        rw [if_pos (by rfl)]
        refine wp_append_run _ _ 98 rfl _ _ _ _ rfl rfl hrun ?_
        clear mj mm mt mp mq hm4 hw' hrun
        refine hK.out _ _ ⟨hE4, trivial⟩ (fun hHeld => ?_)
        clear hK K'
        try simp only [Act.put, List.setIfInBounds_toArray, List.set_cons_zero, List.set_cons_succ]
        refine wpAnyH_take (i := 18) (oi := ⟨_, _, _, _, _, _⟩) (v := ?_) rfl (by kernel_rfl) (by kernel_rfl) (by kernel_rfl) (fun _ _ _ h => h) (Or.inl ⟨by rfl, ?_⟩) (by assumption) ?_
        rotate_left 1
        · intro W' hSw
          obtain ⟨hS1, hS2⟩ := hSw
          go_simp
          try with_reducible rfl
        try simp only [Act.put, List.setIfInBounds_toArray, List.set_cons_zero, List.set_cons_succ]
        refine wpAnyH_take (i := 19) (oi := ⟨_, _, _, _, _, _⟩) (v := ?_) rfl (by kernel_rfl) (by kernel_rfl) (by kernel_rfl) (fun _ _ _ h => h) (Or.inl ⟨by rfl, ?_⟩) (by assumption) ?_
        rotate_left 1
        · intro W' hSw
          obtain ⟨hS1, hS2⟩ := hSw
          go_simp
          try with_reducible rfl
        try simp only [Act.put, List.setIfInBounds_toArray, List.set_cons_zero, List.set_cons_succ]
        refine wpAnyH_ready (rs := [20]) (by kernel_rfl) (by simp) ?_
        refine AllReadyH.cons (o := ⟨_, _, _, _, _, _⟩) rfl (fun K' hK => ?_) AllReadyH.nil
        go_simp
        refine hK.out _ _ ?_ (fun hHeld => ?_)
        · refine ⟨?_, trivial⟩
          rw [blk_put, if_neg nbel]; exact hE4
        clear hK K'
        try simp only [Act.put, List.setIfInBounds_toArray, List.set_cons_zero, List.set_cons_succ]
        refine wpAnyH_done (by kernel_rfl) ?_ _
        clear hLC hLf hbe hb1 dE dL dF
        go_wp2_with fail
        refine ⟨rfl, rfl, ⟨rfl, rfl, n + 1, by omega, ?_, HQ'⟩, ?_⟩
        · show Value.int .i64 _ = _
          go_num
        · show M - (intOf (Value.int .i64 _)).toNat < M - (intOf (F 8)).toNat
          rw [H8.out]
          simp [intOf]; omega
      · go_simp
        refine hK.out _ _ ⟨(blk_alloc _ _ _ _).trans ((if_neg nEj).trans dE), trivial⟩ (fun hHeld => ?_)
        clear hK K'
        try simp only [Act.put, List.setIfInBounds_toArray, List.set_cons_zero, List.set_cons_succ]
        refine wpAnyH_ready (rs := [12]) (by kernel_rfl) (by simp) ?_
        refine AllReadyH.cons (o := ⟨_, _, _, _, _, _⟩) rfl (fun K' hK => ?_) AllReadyH.nil
        go_simp
        refine hK.out _ _ ⟨(blk_alloc _ _ _ _).trans ((if_neg nEj).trans dE), trivial⟩ (fun hHeld => ?_)
        clear hK K'
        try simp only [Act.put, List.setIfInBounds_toArray, List.set_cons_zero, List.set_cons_succ]
        refine wpAnyH_ready (rs := [17]) (by kernel_rfl) (by simp) ?_
        refine AllReadyH.cons (o := ⟨_, _, _, _, _, _⟩) rfl (fun K' hK => ?_) AllReadyH.nil
        have mj : Mor (fun _ => False) B W2 Wj := Mor.of_extends ((extends_drew (ext_Ext (Ext.refl W2))).trans HEJ.out)
        have mm : Mor (fun _ => False) B Wj (Wj.alloc (.cells J.enc.toArray 106)) := Mor.of_extends (extends_alloc (ext_Ext (Ext.refl _)) _)
        obtain ⟨a', n', c', W4, hrun, hw', hm4⟩ := appW 4 64 98 106 Try.underlying98 info106 (by omega) (by omega) B (Wj.alloc (.cells J.enc.toArray 106)) 98 _ (p + n) ((HW2.out.mor mj).mor mm) (by omega) Wj.heap.size J.enc (Job.length_enc J) (Job.one_enc J) ((blk_alloc _ _ _ _).trans (if_pos rfl)) (Nat.le_trans (Nat.le_trans hBW mj.size) mm.size)
        have mt : Mor (fun _ => False) B W2 W4 := (mj.trans mm).trans hm4
        have hLC4 : blk W4 bl = some LC := (mt.blk lL B4 (fun h => h)).trans hLC
        have hLf4 : free W4 bl = true := (mt.free lL B4 (fun h => h)).trans hLf
        have hE4 : blk W4 be = some Ec := (mt.blk lE B3 (fun h => h)).trans hbe
        have mp : Mor (fun k => k = bl) B W4 (put W4 bl (splice LC (st * 2 + 1) [.slice a' n' c'])) := Mor.put (D := fun k => k = bl) (Mor.refl _ _ _) rfl B4 _
        have mq : Mor (fun k => k = bl) B W2 (put W4 bl (splice LC (st * 2 + 1) [.slice a' n' c'])) := (mt.mono (fun k h => h.elim)).trans mp
        have HQ' : Hid (NI w b1 be bst bl B Sn (prgE (some ⟨bP, 0, none⟩) p cP (some ⟨bR, 0, none⟩) M cR (Sn : Int)) Ec (3 * p) (p + (n + 1)) (put W4 bl (splice LC (st * 2 + 1) [.slice a' n' c']))) := by
          refine ⟨(mq.blk l1 B1 nb1l).trans hb1, (mq.blk lE B3 nbel).trans hbe, ?_, ?_, mq.extends HEX.out hwB (fun k hk => by rw [hk]; exact hwbl), Nat.le_trans hBW mq.size⟩
          · obtain ⟨a1, n1, c1, a2, n2, c2, s1, s2, s3, s4⟩ := HST.out
            exact ⟨a1, n1, c1, a2, n2, c2, (mq.blk (blk_lt s1) B2 nbsl).trans s1, (mq.free (blk_lt s1) B2 nbsl).trans s2, s3.mor mq, s4.mor mq⟩
          · exact LevOk.set ((LevOk.mono (LevOk.mor HLV.out mt (fun h => h) B4) (by omega))) B4 hLC4 hstS (.inr rfl) (fun h => by omega) (fun _ => hw')
        rw [if_pos (by rfl)]
        refine wp_append_run _ _ 98 rfl _ _ _ _ rfl rfl hrun ?_
        clear mj mm mt mp mq hm4 hw' hrun
        refine hK.out _ _ ⟨hE4, trivial⟩ (fun hHeld => ?_)
        clear hK K'
        try simp only [Act.put, List.setIfInBounds_toArray, List.set_cons_zero, List.set_cons_succ]
        refine wpAnyH_take (i := 18) (oi := ⟨_, _, _, _, _, _⟩) (v := ?_) rfl (by kernel_rfl) (by kernel_rfl) (by kernel_rfl) (fun _ _ _ h => h) (Or.inl ⟨by rfl, ?_⟩) (by assumption) ?_
        rotate_left 1
        · intro W' hSw
          obtain ⟨hS1, hS2⟩ := hSw
          go_simp
          try with_reducible rfl
        try simp only [Act.put, List.setIfInBounds_toArray, List.set_cons_zero, List.set_cons_succ]
        refine wpAnyH_take (i := 19) (oi := ⟨_, _, _, _, _, _⟩) (v := ?_) rfl (by kernel_rfl) (by kernel_rfl) (by kernel_rfl) (fun _ _ _ h => h) (Or.inl ⟨by rfl, ?_⟩) (by assumption) ?_
        rotate_left 1
        · intro W' hSw
          obtain ⟨hS1, hS2⟩ := hSw
          go_simp
          try with_reducible rfl
        try simp only [Act.put, List.setIfInBounds_toArray, List.set_cons_zero, List.set_cons_succ]
        refine wpAnyH_ready (rs := [20]) (by kernel_rfl) (by simp) ?_
        refine AllReadyH.cons (o := ⟨_, _, _, _, _, _⟩) rfl (fun K' hK => ?_) AllReadyH.nil
        go_simp
        refine hK.out _ _ ?_ (fun hHeld => ?_)
        · refine ⟨?_, trivial⟩
          rw [blk_put, if_neg nbel]; exact hE4
        clear hK K'
        try simp only [Act.put, List.setIfInBounds_toArray, List.set_cons_zero, List.set_cons_succ]
        refine wpAnyH_done (by kernel_rfl) ?_ _
        clear hLC hLf hbe hb1 dE dL dF
        go_wp2_with fail
        refine ⟨rfl, rfl, ⟨rfl, rfl, n + 1, by omega, ?_, HQ'⟩, ?_⟩
        · show Value.int .i64 _ = _
          go_num
        · show M - (intOf (Value.int .i64 _)).toNat < M - (intOf (F 8)).toNat
          rw [H8.out]
          simp [intOf]; omega
  · obtain rfl : n = M := by omega
    have HEX : Hid (w.Extends W) := hext
    clear hst hlv hext
    go_wp2_with fail
    go_ret2
    exact ⟨_, _, rfl, fun _ => rfl, fun h => absurd HG.out h, HEX.out⟩
end Go.Proofs.Qxb6500788a
