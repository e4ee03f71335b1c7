import Derived.Test.Qxb6500788aEc
import Derived.StillTailTactics
import Derived.Deep.QuietTactic
import Derived.BigQuiet
import Derived.Deep.RegionHeld
import Derived.Deep.CutRange
import Derived.Laws.ResultCell
import Derived.Laws.Rows
import Derived.DeepKeys
import Derived.DataBytes
import Derived.Laws.StructEq
import Derived.Laws.AppendOwn
import Derived.Laws.MakeOwn
set_option linter.unusedSimpArgs false
set_option linter.unusedVariables false
namespace Go.Proofs.Qxb6500788a
open Go.RowKit Go.Blk
attribute [local go_sem ↓] execOp_load execOp_store execOp_alloc
attribute [local go_sem] Try.ld24 Try.st24 Try.ld25 Try.st25 Try.ld3 Try.st3 Try.ld30 Try.st30 Try.ld36 Try.st36 Try.ld4 Try.st4 Try.ld41 Try.st41 Try.ld50 Try.st50 Try.ld40 Try.st40 Try.ld42 Try.st42 Try.ld89 Try.st89 Try.ld91 Try.st91 Try.ld56 Try.st56 Try.ld97 Try.st97 Try.ld98 Try.st98 Try.ld101 Try.st101 Try.ld104 Try.st104 Try.ld57 Try.st57 Try.ld130 Try.st130 Try.ld2 Try.st2 Try.ld5 Try.st5 Try.ld9 Try.st9 Try.ld12 Try.st12 Try.ld21 Try.st21 Try.ld22 Try.st22 Try.ld29 Try.st29 Try.ld33 Try.st33 Try.ld59 Try.st59 Try.ld62 Try.st62 Try.ld69 Try.st69 Try.ld94 Try.st94 Try.ld96 Try.st96 Try.ld129 Try.st129 Try.ld158 Try.st158 Try.ld162 Try.st162 Try.ld47 Try.st47 Try.ld44 Try.st44 Try.ld137 Try.st137 Try.ld145 Try.st145 Try.ld43 Try.st43 Try.ld27 Try.st27 Try.ld38 Try.st38 Try.ld46 Try.st46 Try.ld49 Try.st49 Try.ld52 Try.st52 Try.ld54 Try.st54 Try.ld61 Try.st61 Try.ld80 Try.st80 Try.ld87 Try.st87 Try.ld93 Try.st93 Try.ld100 Try.st100 Try.ld103 Try.st103 Try.ld106 Try.st106 Try.ld109 Try.st109 Try.ld132 Try.st132 Try.ld147 Try.st147 Try.al47 Try.al44 Try.al137 Try.al145 Try.al43 Try.al27 Try.al38 Try.al46 Try.al49 Try.al52 Try.al54 Try.al61 Try.al80 Try.al87 Try.al93 Try.al100 Try.al103 Try.al106 Try.al109 Try.al132 Try.al147
attribute [local go_sem] GProgram.length_enc GProgram.ok_enc GProgram.all_get GProgram.all_set GProgram.preds_get GProgram.preds_set GProgram.rules_get GProgram.rules_set GProgram.strata_get GProgram.strata_set Answer.length_enc Answer.ok_enc Answer.all_get Answer.all_set Answer.code_get Answer.code_set Answer.n_get Answer.n_set Answer.rows_get Answer.rows_set Term.length_enc Term.ok_enc Term.all_get Term.all_set Term.var_get Term.var_set Term.n_get Term.n_set Atom.length_enc Atom.ok_enc Atom.all_get Atom.all_set Atom.pred_get Atom.pred_set Atom.args_get Atom.args_set GRule.length_enc GRule.ok_enc GRule.all_get GRule.all_set GRule.head_get GRule.head_set GRule.body_get GRule.body_set GRule.head_pred_get GRule.head_pred_set GRule.head_args_get GRule.head_args_set GOp.length_enc GOp.ok_enc GOp.all_get GOp.all_set GOp.kind_get GOp.kind_set GOp.pred_get GOp.pred_set GOp.t_get GOp.t_set GOp.n_get GOp.n_set GOp.base_get GOp.base_set GOp.rule_get GOp.rule_set GOp.rule_head_get GOp.rule_head_set GOp.rule_body_get GOp.rule_body_set GOp.rule_head_pred_get GOp.rule_head_pred_set GOp.rule_head_args_get GOp.rule_head_args_set PredInfo.length_enc PredInfo.ok_enc PredInfo.all_get PredInfo.all_set PredInfo.arity_get PredInfo.arity_set PredInfo.base_get PredInfo.base_set PredInfo.stratum_get PredInfo.stratum_set GStats.length_enc GStats.ok_enc GStats.all_get GStats.all_set GStats.rounds_get GStats.rounds_set GStats.fired_get GStats.fired_set GStats.emitted_get GStats.emitted_set GStats.fresh_get GStats.fresh_set Literal.length_enc Literal.ok_enc Literal.all_get Literal.all_set Literal.neg_get Literal.neg_set Literal.atom_get Literal.atom_set Literal.atom_pred_get Literal.atom_pred_set Literal.atom_args_get Literal.atom_args_set Engine.length_enc Engine.ok_enc Engine.all_get Engine.all_set Engine.prog_get Engine.prog_set Engine.st_get Engine.st_set Engine.levels_get Engine.levels_set Engine.running_get Engine.running_set Engine.stratum_get Engine.stratum_set Engine.round_get Engine.round_set Engine.saved_get Engine.saved_set Engine.stats_get Engine.stats_set Engine.prog_preds_get Engine.prog_preds_set Engine.prog_rules_get Engine.prog_rules_set Engine.prog_strata_get Engine.prog_strata_set Engine.stats_rounds_get Engine.stats_rounds_set Engine.stats_fired_get Engine.stats_fired_set Engine.stats_emitted_get Engine.stats_emitted_set Engine.stats_fresh_get Engine.stats_fresh_set Level.length_enc Level.ok_enc Level.all_get Level.all_set Level.heads_get Level.heads_set Level.jobs_get Level.jobs_set Plan.length_enc Plan.ok_enc Plan.all_get Plan.all_set Plan.rule_get Plan.rule_set Plan.delta_get Plan.delta_set Plan.src_get Plan.src_set Job.length_enc Job.ok_enc Job.all_get Job.all_set Job.full_get Job.full_set Job.deltas_get Job.deltas_set Job.full_rule_get Job.full_rule_set Job.full_delta_get Job.full_delta_set Job.full_src_get Job.full_src_set GState.length_enc GState.ok_enc GState.all_get GState.all_set GState.prog_get GState.prog_set GState.base_get GState.base_set GState.shown_get GState.shown_set GState.prog_preds_get GState.prog_preds_set GState.prog_rules_get GState.prog_rules_set GState.prog_strata_get GState.prog_strata_set Store.length_enc Store.ok_enc Store.all_get Store.all_set Store.arity_get Store.arity_set Store.rows_get Store.rows_set Env.length_enc Env.ok_enc Env.all_get Env.all_set Env.val_get Env.val_set Env.set_get Env.set_set
attribute [local go_sem] size_put size_ext blk_put free_put blk_alloc free_alloc blk_drew free_drew blk_ext free_ext lookOr_some putOr_some segAt_some cellAt_some storeIn_some put_put put_alloc_new length_arr ok_arr_u8 ok_arr_u32 ok_arr_u64 ok_arr_i64 ok_arr_sl cellsV_agg cellsV_int cellsV_bool cellsV_string cellsV_pointer cellsV_slice cellsV_sl ok_int ok_bool ok_string ok_pointer ok_slice ok_sl toList_arr seg_arr set_arr nth_splice nth_splice0 seg_splice seg_splice0 splice_splice splice_splice0 length_splice_if
attribute [local go_sem ↓] execOp_box
attribute [local go_sem] box_run nth_arr_u8 put_arr_u8 blk_drewN free_drewN put_drewN blk_raw free_raw
theorem FirePost.bef {B : Nat} {O : Own} {W W1 : World} {g be : Nat} {p : Pg} {x : Engine} {S sav : List (List Tup)} {h : Nat} {out : List Tup} {e : Ending} {W' : World} (hf : FirePost B (lab O W.heap.size .no) W1 g be p x S sav h out e W') (hx : W.Extends W1) : FirePost B O W g be p x S sav h out e W' := by
  obtain ⟨N', c, q, h1, h2, h3⟩ := hf
  exact ⟨N', c, q, h1, eout_lab h2 hx, h3⟩
theorem src_at {L : List Literal} {d : Nat} {l : Literal} (hl : L[d]? = some l) : (srcOf L (d : Int))[d]? = some (3 * l.atom.pred.toNat + 1) := by
  unfold srcOf
  rw [List.getElem?_mapIdx, hl]
  simp
attribute [local go_sem] pl_len pl0 pl1 pl2 pl_all pl_ok
set_option maxRecDepth 40000 in
set_option maxHeartbeats 8000000 in
theorem fireD_any (B : Nat) (O : Own) (W : World) (g be : Nat) (p : Pg) (x : Engine) (S sav : List (List Tup)) (hE : EAt B O W g be p x S sav) (hok : PgOk p) (hS : SOk S) (hl : S.length = 3 * p.P.length) (k : Nat) (r : GRule) (hr : p.R[k]? = some r) (y : Plan) (d : Nat) (l : Literal) (hd : (p.L k)[d]? = some l) (hy : PlanC (core O W) y p k (d : Int)) (h : Nat) (hh : r.head.pred = (h : Int)) (hFN : (rowsAt S (3 * h)).length + (rowsAt S (3 * h + 2)).length ≤ 512) :
    Calls Try.prog 60 #[.pointer (some ⟨be, 0, none⟩), .agg (plE (k : Int) (d : Int) y.src.a y.src.len y.src.cap).toArray] W fun e W' => if rowsAt S (3 * l.atom.pred.toNat + 1) = [] then e = .returned (.int .i64 0) ∧ EOut B O W g be p x S sav W' else FirePost B O W g be p x S sav h (goM p.P S ((p.L k).zip (srcOf (p.L k) (d : Int))) r.head ((p.L k).zip (srcOf (p.L k) (d : Int))) Env.zero []) e W' := by
  obtain ⟨q, xp, hq1, hq2, hqr⟩ := hok.lits k r hr l (List.mem_of_getElem? hd)
  have hqP : q < p.P.length := (List.getElem?_eq_some_iff.1 hq2).1
  have hqn : l.atom.pred.toNat = q := by rw [hq1]; rfl
  rw [hqn]
  have hsrc := src_at hd
  rw [hqn] at hsrc
  have h64 := hok.nP
  have hd8 : d < (p.L k).length := (List.getElem?_eq_some_iff.1 hd).1
  have h8 := hok.b8 k r hr
  obtain ⟨DL, hDL⟩ : ∃ F, F = rowsAt S (3 * q + 1) := ⟨_, rfl⟩
  have hSD : S[3 * q + 1]? = some DL := by
    rw [hDL]; unfold rowsAt
    rw [List.getD_eq_getElem?_getD, List.getElem?_eq_getElem (by omega)]; rfl
  rw [← hDL]
  obtain ⟨out, hout⟩ : ∃ out, out = goM p.P S ((p.L k).zip (srcOf (p.L k) (d : Int))) r.head ((p.L k).zip (srcOf (p.L k) (d : Int))) Env.zero [] := ⟨_, rfl⟩
  rw [← hout]
  obtain ⟨Q, hQ⟩ : ∃ Q, Q = (fun e W' => if DL = [] then e = .returned (.int .i64 0) ∧ EOut B O W g be p x S sav W' else FirePost B O W g be p x S sav h out e W' : Ending → World → Prop) := ⟨_, rfl⟩
  rw [← hQ]
  have HQ := hid_of hQ
  have HOUT := hid_of hout
  have HS0 := hid_of hS
  have HSD := hid_of hSD
  have HR := hid_of hr
  have HE0 := hid_of hE
  have HY0 := hid_of hy
  have HLN := hid_of hl
  have HOK := hid_of hok
  have HSRC := hid_of hsrc
  clear hQ hout hDL hSD hq1 hq2 hqr hqn hsrc hS hr hE hy hok xp hl
  go_enter Try.func60, Try.ntmps60
  go_upto_region 1 with fail
  refine wp_world (fun W0 => blk W0 W.heap.size = some (plE (k : Int) (d : Int) y.src.a y.src.len y.src.cap) ∧ W.Extends W0) ⟨?_, extends_alloc (ext_Ext (Ext.refl _)) _⟩ ?_
  · rw [blk_alloc, if_pos rfl]
  rintro W1 ⟨hb3, hx1⟩
  obtain ⟨b3, e3⟩ : ∃ b3, b3 = W.heap.size := ⟨_, rfl⟩
  rw [← e3] at hb3 ⊢
  obtain ⟨O1, hO1⟩ : ∃ O1, O1 = lab O W.heap.size .no := ⟨_, rfl⟩
  have hE1 : EAt B O1 W1 g be p x S sav := by rw [hO1]; exact HE0.out.new hx1 _
  have hy1 : PlanC (core O1 W1) y p k (d : Int) := by rw [hO1]; exact HY0.out.ext (core_new hx1 _)
  have HF1 : Hid (∀ e V, FirePost B O1 W1.drew g be p x S sav h out e V → FirePost B O W g be p x S sav h out e V) := by
    intro e V h
    rw [hO1] at h
    exact h.bef (hx1.trans (extd _))
  have HX1 := hid_of hx1
  have HEO : Hid (EOut B O W g be p x S sav W1.drew) := by
    refine eout_lab (l := .no) ?_ (hx1.trans (extd _))
    rw [← hO1]
    exact eout_same (hE1.ext (extd _)) (ext_Ext (Ext.refl _))
  clear hO1 e3 hx1
  obtain ⟨bst, hcell, hfre, hxst, hsat, hown, _⟩ := eat_st hE1
  obtain ⟨X, hX⟩ : ∃ X, X = x.enc := ⟨_, rfl⟩
  rw [← hX] at hcell
  obtain ⟨xl, _, _, _, x3, _, _, _, _, _, _, _, _, _⟩ := eng_cells hX
  rw [hxst] at x3
  obtain ⟨z, bs, Cs, hz1, hz2, hz3, hz4, hz5⟩ := hy1.2.2.uncore.at (i := d) (by rw [← hy1.2.2.1]; unfold srcOf; rw [List.length_mapIdx]; exact hd8)
  obtain rfl : z = 3 * q + 1 := Option.some.inj (hz1.symm.trans HSRC.out)
  have hsl : y.src.len = (p.L k).length := by rw [← hy1.2.2.1]; unfold srcOf; rw [List.length_mapIdx]
  rw [Nat.mul_one] at hz5
  have hzn : nth Cs d = some (.int .i64 ((3 * q + 1 : Nat) : Int)) := nth_in (j := 0) hz5 rfl (by omega)
  have hcs : d < Cs.length := by omega
  have d0 : (0 : Int) ≤ (d : Int) := by omega
  have d1 : (d : Int) < (y.src.len : Int) := by omega
  have d2 : ((d : Int)).toNat = d := by omega
  have hlen := len_any B O1 W1.drew g bst S (hsat.ext (extd _)) (3 * q + 1) DL HSD.out
  have hfire := fire_any B O1 W1.drew g be p x S sav (hE1.ext (extd _)) HOK.out HS0.out HLN.out k r HR.out y d (hy1.ext (core_ext (extd _))) h hh hFN
  rw [← HOUT.out] at hfire
  have HFIRE := hid_of hfire
  obtain ⟨sa, hsa⟩ : ∃ sa, sa = y.src.a := ⟨_, rfl⟩
  rw [← hsa] at hb3 hz2 HFIRE ⊢
  subst hz2
  clear hE1 hy1 hsat hown hfire hz1 hz4 hz5 hsl hX hxst HE0 HY0 hsa
  refine wp_region_held_drew (S := fun W' => blk W' be = some X ∧ blk W' b3 = some (plE (k : Int) (d : Int) (some ⟨bs, 0, none⟩) y.src.len y.src.cap) ∧ blk W' bs = some Cs) (by kernel_rfl) ⟨hcell, hb3, hz3⟩ (fun hHeld => ?_)
  refine wpAnyH_take (i := 0) (oi := ⟨_, _, _, _, _, _⟩) (v := ?_) rfl (by kernel_rfl) (by kernel_rfl) (by kernel_rfl) (fun _ _ _ h => h) (Or.inl ⟨by rfl, ?_⟩) (by assumption) ?_
  rotate_left 1
  · intro W' hSw
    obtain ⟨hS1, hS2, hS3⟩ := hSw
    go_simp
    try with_reducible rfl
  try simp only [Act.put, List.setIfInBounds_toArray, List.set_cons_zero, List.set_cons_succ]
  refine wpAnyH_take (i := 1) (oi := ⟨_, _, _, _, _, _⟩) (v := ?_) rfl (by kernel_rfl) (by kernel_rfl) (by kernel_rfl) (fun _ _ _ h => h) (Or.inl ⟨by rfl, ?_⟩) (by assumption) ?_
  rotate_left 1
  · intro W' hSw
    obtain ⟨hS1, hS2, hS3⟩ := hSw
    go_simp
    try with_reducible rfl
  try simp only [Act.put, List.setIfInBounds_toArray, List.set_cons_zero, List.set_cons_succ]
  refine wpAnyH_take (i := 2) (oi := ⟨_, _, _, _, _, _⟩) (v := ?_) rfl (by kernel_rfl) (by kernel_rfl) (by kernel_rfl) (fun _ _ _ h => h) (Or.inl ⟨by rfl, ?_⟩) (by assumption) ?_
  rotate_left 1
  · intro W' hSw
    obtain ⟨hS1, hS2, hS3⟩ := hSw
    go_simp
    try with_reducible rfl
  try simp only [Act.put, List.setIfInBounds_toArray, List.set_cons_zero, List.set_cons_succ]
  refine wpAnyH_take (i := 3) (oi := ⟨_, _, _, _, _, _⟩) (v := ?_) rfl (by kernel_rfl) (by kernel_rfl) (by kernel_rfl) (fun _ _ _ h => h) (Or.inl ⟨by rfl, ?_⟩) (by assumption) ?_
  rotate_left 1
  · intro W' hSw
    obtain ⟨hS1, hS2, hS3⟩ := hSw
    go_simp
    try with_reducible rfl
  try simp only [Act.put, List.setIfInBounds_toArray, List.set_cons_zero, List.set_cons_succ]
  refine wpAnyH_take (i := 4) (oi := ⟨_, _, _, _, _, _⟩) (v := ?_) rfl (by kernel_rfl) (by kernel_rfl) (by kernel_rfl) (fun _ _ _ h => h) (Or.inl ⟨by rfl, ?_⟩) (by assumption) ?_
  rotate_left 1
  · intro W' hSw
    obtain ⟨hS1, hS2, hS3⟩ := hSw
    go_simp
    try with_reducible rfl
  try simp only [Act.put, List.setIfInBounds_toArray, List.set_cons_zero, List.set_cons_succ]
  refine wpAnyH_take (i := 5) (oi := ⟨_, _, _, _, _, _⟩) (v := ?_) rfl (by kernel_rfl) (by kernel_rfl) (by kernel_rfl) (fun _ _ _ h => h) (Or.inl ⟨by rfl, ?_⟩) (by assumption) ?_
  rotate_left 1
  · intro W' hSw
    obtain ⟨hS1, hS2, hS3⟩ := hSw
    go_simp
    try with_reducible rfl
  try simp only [Act.put, List.setIfInBounds_toArray, List.set_cons_zero, List.set_cons_succ]
  refine wpAnyH_take (i := 6) (oi := ⟨_, _, _, _, _, _⟩) (v := ?_) rfl (by kernel_rfl) (by kernel_rfl) (by kernel_rfl) (fun _ _ _ h => h) (Or.inl ⟨by rfl, ?_⟩) (by assumption) ?_
  rotate_left 1
  · intro W' hSw
    obtain ⟨hS1, hS2, hS3⟩ := hSw
    go_simp
    try with_reducible rfl
  try simp only [Act.put, List.setIfInBounds_toArray, List.set_cons_zero, List.set_cons_succ]
  refine wpAnyH_take (i := 7) (oi := ⟨_, _, _, _, _, _⟩) (v := ?_) rfl (by kernel_rfl) (by kernel_rfl) (by kernel_rfl) (fun _ _ _ h => h) (Or.inl ⟨by rfl, ?_⟩) (by assumption) ?_
  rotate_left 1
  · intro W' hSw
    obtain ⟨hS1, hS2, hS3⟩ := hSw
    go_simp
    try with_reducible rfl
  try simp only [Act.put, List.setIfInBounds_toArray, List.set_cons_zero, List.set_cons_succ]
  refine wpAnyH_take (i := 8) (oi := ⟨_, _, _, _, _, _⟩) (v := ?_) rfl (by kernel_rfl) (by kernel_rfl) (by kernel_rfl) (fun _ _ _ h => h) (Or.inl ⟨by rfl, ?_⟩) (by assumption) ?_
  rotate_left 1
  · intro W' hSw
    obtain ⟨hS1, hS2, hS3⟩ := hSw
    go_simp
    try with_reducible rfl
  try simp only [Act.put, List.setIfInBounds_toArray, List.set_cons_zero, List.set_cons_succ]
  refine wpAnyH_take (i := 9) (oi := ⟨_, _, _, _, _, _⟩) (v := ?_) rfl (by kernel_rfl) (by kernel_rfl) (by kernel_rfl) (fun _ _ _ h => h) (Or.inl ⟨by rfl, ?_⟩) (by assumption) ?_
  rotate_left 1
  · intro W' hSw
    obtain ⟨hS1, hS2, hS3⟩ := hSw
    go_simp
    try with_reducible rfl
  try simp only [Act.put, List.setIfInBounds_toArray, List.set_cons_zero, List.set_cons_succ]
  refine wpAnyH_ready (rs := [10]) (by kernel_rfl) (by simp) ?_
  refine AllReadyH.cons (o := ⟨_, _, _, _, _, _⟩) rfl (fun K' hK => ?_) AllReadyH.nil
  go_simp
  refine hlen.mono ?_
  rintro en V2 ⟨rfl, rfl⟩
  dsimp only
  refine hK.out _ _ ⟨hcell, hb3, hz3⟩ (fun hHeld => ?_)
  clear hK K'
  try simp only [Act.put, List.setIfInBounds_toArray, List.set_cons_zero, List.set_cons_succ]
  refine wpAnyH_take (i := 11) (oi := ⟨_, _, _, _, _, _⟩) (v := ?_) rfl (by kernel_rfl) (by kernel_rfl) (by kernel_rfl) (fun _ _ _ h => h) (Or.inl ⟨by rfl, ?_⟩) (by assumption) ?_
  rotate_left 1
  · intro W' hSw
    obtain ⟨hS1, hS2, hS3⟩ := hSw
    go_simp
    try with_reducible rfl
  try simp only [Act.put, List.setIfInBounds_toArray, List.set_cons_zero, List.set_cons_succ]
  refine wpAnyH_take (i := 12) (oi := ⟨_, _, _, _, _, _⟩) (v := ?_) rfl (by kernel_rfl) (by kernel_rfl) (by kernel_rfl) (fun _ _ _ h => h) (Or.inl ⟨by rfl, ?_⟩) (by assumption) ?_
  rotate_left 1
  · intro W' hSw
    obtain ⟨hS1, hS2, hS3⟩ := hSw
    go_simp
    try with_reducible rfl
  try simp only [Act.put, List.setIfInBounds_toArray, List.set_cons_zero, List.set_cons_succ]
  refine wpAnyH_take (i := 13) (oi := ⟨_, _, _, _, _, _⟩) (v := ?_) rfl (by kernel_rfl) (by kernel_rfl) (by kernel_rfl) (fun _ _ _ h => h) (Or.inl ⟨by rfl, ?_⟩) (by assumption) ?_
  rotate_left 1
  · intro W' hSw
    obtain ⟨hS1, hS2, hS3⟩ := hSw
    go_simp
    try with_reducible rfl
  try simp only [Act.put, List.setIfInBounds_toArray, List.set_cons_zero, List.set_cons_succ]
  refine wpAnyH_take (i := 14) (oi := ⟨_, _, _, _, _, _⟩) (v := ?_) rfl (by kernel_rfl) (by kernel_rfl) (by kernel_rfl) (fun _ _ _ h => h) (Or.inl ⟨by rfl, ?_⟩) (by assumption) ?_
  rotate_left 1
  · intro W' hSw
    obtain ⟨hS1, hS2, hS3⟩ := hSw
    go_simp
    try with_reducible rfl
  try simp only [Act.put, List.setIfInBounds_toArray, List.set_cons_zero, List.set_cons_succ]
  refine wpAnyH_take (i := 15) (oi := ⟨_, _, _, _, _, _⟩) (v := ?_) rfl (by kernel_rfl) (by kernel_rfl) (by kernel_rfl) (fun _ _ _ h => h) (Or.inl ⟨by rfl, ?_⟩) (by assumption) ?_
  rotate_left 1
  · intro W' hSw
    obtain ⟨hS1, hS2, hS3⟩ := hSw
    go_simp
    try with_reducible rfl
  try simp only [Act.put, List.setIfInBounds_toArray, List.set_cons_zero, List.set_cons_succ]
  refine wpAnyH_done (by kernel_rfl) ?_ _
  clear hHeld
  by_cases hem : DL = []
  · subst hem
    have HP : Hid (Q (.returned (.int .i64 0)) W1.drew) := by
      show Q _ _
      rw [HQ.out]
      show if _ then _ else _
      rw [if_pos rfl]
      exact ⟨rfl, HEO.out⟩
    go_wp2_with fail
    try go_ret
    exact HP.out
  have hlz : ¬ (DL.length : Int) = 0 := by
    intro e
    exact hem (List.eq_nil_of_length_eq_zero (by omega))
  have hlb : ((DL.length : Int) == 0) = false := by simp; exact hem
  have HP : Hid (∀ e V, FirePost B O1 W1.drew g be p x S sav h out e V → Q e V) := by
    intro e V hf
    rw [HQ.out]
    show if _ then _ else _
    rw [if_neg hem]
    exact HF1.out e V hf
  clear hem
  go_wp2_with fail
  refine HFIRE.out.mono ?_
  rintro e V hfp
  have hfp2 := hfp
  obtain ⟨N', cc, qq, rfl, _⟩ := hfp2
  have HFP := hid_of hfp
  clear hfp
  dsimp only
  go_wp2_with fail
  try go_ret
  exact HP.out _ _ HFP.out
end Go.Proofs.Qxb6500788a
