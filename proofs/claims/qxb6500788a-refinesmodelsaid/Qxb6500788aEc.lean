import Derived.Test.Qxb6500788aEb
import Derived.StillTailTactics
import Derived.Deep.QuietTactic
import Derived.BigQuiet
import Derived.Deep.RegionHeld
import Derived.Deep.CutRange
import Derived.Laws.ResultCell
import Derived.Laws.Rows
import Derived.DeepKeys
import Derived.DataBytes
import Derived.Laws.StructEq
import Derived.Laws.AppendOwn
import Derived.Laws.MakeOwn
set_option linter.unusedSimpArgs false
set_option linter.unusedVariables false
namespace Go.Proofs.Qxb6500788a
open Go.RowKit Go.Blk
attribute [local go_sem ↓] execOp_load execOp_store execOp_alloc
attribute [local go_sem] Try.ld24 Try.st24 Try.ld25 Try.st25 Try.ld3 Try.st3 Try.ld30 Try.st30 Try.ld36 Try.st36 Try.ld4 Try.st4 Try.ld41 Try.st41 Try.ld50 Try.st50 Try.ld40 Try.st40 Try.ld42 Try.st42 Try.ld89 Try.st89 Try.ld91 Try.st91 Try.ld56 Try.st56 Try.ld97 Try.st97 Try.ld98 Try.st98 Try.ld101 Try.st101 Try.ld104 Try.st104 Try.ld57 Try.st57 Try.ld130 Try.st130 Try.ld2 Try.st2 Try.ld5 Try.st5 Try.ld9 Try.st9 Try.ld12 Try.st12 Try.ld21 Try.st21 Try.ld22 Try.st22 Try.ld29 Try.st29 Try.ld33 Try.st33 Try.ld59 Try.st59 Try.ld62 Try.st62 Try.ld69 Try.st69 Try.ld94 Try.st94 Try.ld96 Try.st96 Try.ld129 Try.st129 Try.ld158 Try.st158 Try.ld162 Try.st162 Try.ld47 Try.st47 Try.ld44 Try.st44 Try.ld137 Try.st137 Try.ld145 Try.st145 Try.ld43 Try.st43 Try.ld27 Try.st27 Try.ld38 Try.st38 Try.ld46 Try.st46 Try.ld49 Try.st49 Try.ld52 Try.st52 Try.ld54 Try.st54 Try.ld61 Try.st61 Try.ld80 Try.st80 Try.ld87 Try.st87 Try.ld93 Try.st93 Try.ld100 Try.st100 Try.ld103 Try.st103 Try.ld106 Try.st106 Try.ld109 Try.st109 Try.ld132 Try.st132 Try.ld147 Try.st147 Try.al47 Try.al44 Try.al137 Try.al145 Try.al43 Try.al27 Try.al38 Try.al46 Try.al49 Try.al52 Try.al54 Try.al61 Try.al80 Try.al87 Try.al93 Try.al100 Try.al103 Try.al106 Try.al109 Try.al132 Try.al147
attribute [local go_sem] GProgram.length_enc GProgram.ok_enc GProgram.all_get GProgram.all_set GProgram.preds_get GProgram.preds_set GProgram.rules_get GProgram.rules_set GProgram.strata_get GProgram.strata_set Answer.length_enc Answer.ok_enc Answer.all_get Answer.all_set Answer.code_get Answer.code_set Answer.n_get Answer.n_set Answer.rows_get Answer.rows_set Term.length_enc Term.ok_enc Term.all_get Term.all_set Term.var_get Term.var_set Term.n_get Term.n_set Atom.length_enc Atom.ok_enc Atom.all_get Atom.all_set Atom.pred_get Atom.pred_set Atom.args_get Atom.args_set GRule.length_enc GRule.ok_enc GRule.all_get GRule.all_set GRule.head_get GRule.head_set GRule.body_get GRule.body_set GRule.head_pred_get GRule.head_pred_set GRule.head_args_get GRule.head_args_set GOp.length_enc GOp.ok_enc GOp.all_get GOp.all_set GOp.kind_get GOp.kind_set GOp.pred_get GOp.pred_set GOp.t_get GOp.t_set GOp.n_get GOp.n_set GOp.base_get GOp.base_set GOp.rule_get GOp.rule_set GOp.rule_head_get GOp.rule_head_set GOp.rule_body_get GOp.rule_body_set GOp.rule_head_pred_get GOp.rule_head_pred_set GOp.rule_head_args_get GOp.rule_head_args_set PredInfo.length_enc PredInfo.ok_enc PredInfo.all_get PredInfo.all_set PredInfo.arity_get PredInfo.arity_set PredInfo.base_get PredInfo.base_set PredInfo.stratum_get PredInfo.stratum_set GStats.length_enc GStats.ok_enc GStats.all_get GStats.all_set GStats.rounds_get GStats.rounds_set GStats.fired_get GStats.fired_set GStats.emitted_get GStats.emitted_set GStats.fresh_get GStats.fresh_set Literal.length_enc Literal.ok_enc Literal.all_get Literal.all_set Literal.neg_get Literal.neg_set Literal.atom_get Literal.atom_set Literal.atom_pred_get Literal.atom_pred_set Literal.atom_args_get Literal.atom_args_set Engine.length_enc Engine.ok_enc Engine.all_get Engine.all_set Engine.prog_get Engine.prog_set Engine.st_get Engine.st_set Engine.levels_get Engine.levels_set Engine.running_get Engine.running_set Engine.stratum_get Engine.stratum_set Engine.round_get Engine.round_set Engine.saved_get Engine.saved_set Engine.stats_get Engine.stats_set Engine.prog_preds_get Engine.prog_preds_set Engine.prog_rules_get Engine.prog_rules_set Engine.prog_strata_get Engine.prog_strata_set Engine.stats_rounds_get Engine.stats_rounds_set Engine.stats_fired_get Engine.stats_fired_set Engine.stats_emitted_get Engine.stats_emitted_set Engine.stats_fresh_get Engine.stats_fresh_set Level.length_enc Level.ok_enc Level.all_get Level.all_set Level.heads_get Level.heads_set Level.jobs_get Level.jobs_set Plan.length_enc Plan.ok_enc Plan.all_get Plan.all_set Plan.rule_get Plan.rule_set Plan.delta_get Plan.delta_set Plan.src_get Plan.src_set Job.length_enc Job.ok_enc Job.all_get Job.all_set Job.full_get Job.full_set Job.deltas_get Job.deltas_set Job.full_rule_get Job.full_rule_set Job.full_delta_get Job.full_delta_set Job.full_src_get Job.full_src_set GState.length_enc GState.ok_enc GState.all_get GState.all_set GState.prog_get GState.prog_set GState.base_get GState.base_set GState.shown_get GState.shown_set GState.prog_preds_get GState.prog_preds_set GState.prog_rules_get GState.prog_rules_set GState.prog_strata_get GState.prog_strata_set Store.length_enc Store.ok_enc Store.all_get Store.all_set Store.arity_get Store.arity_set Store.rows_get Store.rows_set Env.length_enc Env.ok_enc Env.all_get Env.all_set Env.val_get Env.val_set Env.set_get Env.set_set
attribute [local go_sem] size_put size_ext blk_put free_put blk_alloc free_alloc blk_drew free_drew blk_ext free_ext lookOr_some putOr_some segAt_some cellAt_some storeIn_some put_put put_alloc_new length_arr ok_arr_u8 ok_arr_u32 ok_arr_u64 ok_arr_i64 ok_arr_sl cellsV_agg cellsV_int cellsV_bool cellsV_string cellsV_pointer cellsV_slice cellsV_sl ok_int ok_bool ok_string ok_pointer ok_slice ok_sl toList_arr seg_arr set_arr nth_splice nth_splice0 seg_splice seg_splice0 splice_splice splice_splice0 length_splice_if
attribute [local go_sem ↓] execOp_box
attribute [local go_sem] box_run nth_arr_u8 put_arr_u8 blk_drewN free_drewN put_drewN blk_raw free_raw
def xF (x : Engine) (out : List Tup) (q : Int) : Engine := { x with stats := { x.stats with fired := wrap64 (x.stats.fired + 1), emitted := wrap64 (x.stats.emitted + out.length), fresh := q } }
def FirePost (B : Nat) (O : Own) (W : World) (g be : Nat) (p : Pg) (x : Engine) (S sav : List (List Tup)) (h : Nat) (out : List Tup) (e : Ending) (W' : World) : Prop := ∃ (N' : List Tup) (c q : Int), e = .returned (.int .i64 c) ∧ EOut B O W g be p (xF x out q) (S.set (3 * h + 2) N') sav W' ∧ ((c = 0 ∧ N' = newL (rowsAt S (3 * h)) (rowsAt S (3 * h + 2)) out ∧ (rowsAt S (3 * h)).length + N'.length ≤ 512 ∧ q = frN x.stats.fresh (N'.length - (rowsAt S (3 * h + 2)).length)) ∨ (c = 3 ∧ 512 < (rowsAt S (3 * h)).length + (newL (rowsAt S (3 * h)) (rowsAt S (3 * h + 2)) out).length))
def fiI (B : Nat) (O : Own) (W : World) (g be : Nat) (p : Pg) (x : Engine) (S sav : List (List Tup)) (h : Nat) (F N out : List Tup) (a : Option Addr) (n c : Nat) (f : Nat → Value) (V : World) : Prop := f 0 = .pointer (some ⟨be, 0, none⟩) ∧ f 5 = .int .i64 (h : Int) ∧ f 6 = .slice a n c ∧ f 7 = .int .i64 (F.length : Int) ∧ ∃ i : Nat, i ≤ n ∧ f 9 = .int .i64 (i : Int) ∧ Hid (F.length + (newL F N (out.take i)).length ≤ 512 ∧ ∃ O', Fr (isE g) O W O' V ∧ EAt B O' V g be p (xF x out (frN x.stats.fresh ((newL F N (out.take i)).length - N.length))) (S.set (3 * h + 2) (newL F N (out.take i))) sav ∧ Rw tpl 4 (core O' V) a n out)
set_option maxRecDepth 100000 in
theorem frame125 (f : Nat → Value) : frameN 125 f = #[f 0, f 1, f 2, f 3, f 4, f 5, f 6, f 7, f 8, f 9, f 10, f 11, f 12, f 13, f 14, f 15, f 16, f 17, f 18, f 19, f 20, f 21, f 22, f 23, f 24, f 25, f 26, f 27, f 28, f 29, f 30, f 31, f 32, f 33, f 34, f 35, f 36, f 37, f 38, f 39, f 40, f 41, f 42, f 43, f 44, f 45, f 46, f 47, f 48, f 49, f 50, f 51, f 52, f 53, f 54, f 55, f 56, f 57, f 58, f 59, f 60, f 61, f 62, f 63, f 64, f 65, f 66, f 67, f 68, f 69, f 70, f 71, f 72, f 73, f 74, f 75, f 76, f 77, f 78, f 79, f 80, f 81, f 82, f 83, f 84, f 85, f 86, f 87, f 88, f 89, f 90, f 91, f 92, f 93, f 94, f 95, f 96, f 97, f 98, f 99, f 100, f 101, f 102, f 103, f 104, f 105, f 106, f 107, f 108, f 109, f 110, f 111, f 112, f 113, f 114, f 115, f 116, f 117, f 118, f 119, f 120, f 121, f 122, f 123, f 124] := by kernel_rfl
attribute [local go_sem] pl_len pl0 pl1 pl2 pl_all pl_ok
set_option maxRecDepth 40000 in
set_option maxHeartbeats 8000000 in
theorem fire_any (B : Nat) (O : Own) (W : World) (g be : Nat) (p : Pg) (x : Engine) (S sav : List (List Tup)) (hE : EAt B O W g be p x S sav) (hok : PgOk p) (hS : SOk S) (hl : S.length = 3 * p.P.length) (k : Nat) (r : GRule) (hr : p.R[k]? = some r) (y : Plan) (d : Int) (hy : PlanC (core O W) y p k d) (h : Nat) (hh : r.head.pred = (h : Int)) (hFN : (rowsAt S (3 * h)).length + (rowsAt S (3 * h + 2)).length ≤ 512) :
    Calls Try.prog 59 #[.pointer (some ⟨be, 0, none⟩), .agg (plE (k : Int) d y.src.a y.src.len y.src.cap).toArray] W (FirePost B O W g be p x S sav h (goM p.P S ((p.L k).zip (srcOf (p.L k) d)) r.head ((p.L k).zip (srcOf (p.L k) d)) Env.zero [])) := by
  obtain ⟨out, hout⟩ : ∃ out, out = goM p.P S ((p.L k).zip (srcOf (p.L k) d)) r.head ((p.L k).zip (srcOf (p.L k) d)) Env.zero [] := ⟨_, rfl⟩
  rw [← hout]
  obtain ⟨q', xp, hq1, hq2, hqr⟩ := hok.head k r hr
  have hhP : h < p.P.length := by
    rw [hh] at hq1
    have : h = q' := by omega
    rw [this]; exact (List.getElem?_eq_some_iff.1 hq2).1
  have h64 := hok.nP
  have h128 := hok.nR
  have hkR : k < p.R.length := (List.getElem?_eq_some_iff.1 hr).1
  obtain ⟨F, hF⟩ : ∃ F, F = rowsAt S (3 * h) := ⟨_, rfl⟩
  obtain ⟨N, hN⟩ : ∃ N, N = rowsAt S (3 * h + 2) := ⟨_, rfl⟩
  have hSF : S[3 * h]? = some F := by
    rw [hF]; unfold rowsAt
    rw [List.getD_eq_getElem?_getD, List.getElem?_eq_getElem (by omega)]; rfl
  have hSN : S[3 * h + 2]? = some N := by
    rw [hN]; unfold rowsAt
    rw [List.getD_eq_getElem?_getD, List.getElem?_eq_getElem (by omega)]; rfl
  rw [← hF, ← hN] at hFN
  obtain ⟨Q, hQ⟩ : ∃ Q, Q = FirePost B O W g be p x S sav h out := ⟨_, rfl⟩
  rw [← hQ]
  have HQ := hid_of hQ
  have HOUT := hid_of hout
  have HN := hid_of hN
  have HF := hid_of hF
  have HSF := hid_of hSF
  have HSN := hid_of hSN
  have HS0 := hid_of hS
  have HR := hid_of hr
  have HE0 := hid_of hE
  have HY0 := hid_of hy
  have HLN := hid_of hl
  have HOK := hid_of hok
  clear hQ hout hN hF hSF hSN hq1 hq2 hS hr hE hy hok hqr xp
  go_enter Try.func59, Try.ntmps59
  go_upto_region 1 with fail
  refine wp_world (fun W0 => blk W0 W.heap.size = some (plE (k : Int) d y.src.a y.src.len y.src.cap) ∧ W.Extends W0) ⟨?_, extends_alloc (ext_Ext (Ext.refl _)) _⟩ ?_
  · rw [blk_alloc, if_pos rfl]
  rintro W1 ⟨hb3, hx1⟩
  obtain ⟨b3, e3⟩ : ∃ b3, b3 = W.heap.size := ⟨_, rfl⟩
  rw [← e3] at hb3 ⊢
  obtain ⟨O1, hO1⟩ : ∃ O1, O1 = lab O W.heap.size .no := ⟨_, rfl⟩
  have hE1 : EAt B O1 W1 g be p x S sav := by rw [hO1]; exact HE0.out.new hx1 _
  have hy1 : PlanC (core O1 W1) y p k d := by rw [hO1]; exact HY0.out.ext (core_new hx1 _)
  have HF1 : Hid (∀ x' S' V, EOut B O1 W1 g be p x' S' sav V → EOut B O W g be p x' S' sav V) := by
    intro x' S' V h
    rw [hO1] at h
    exact eout_lab h hx1
  clear hO1 e3 hx1
  obtain ⟨bst, hcell, hfre, hxst, hsat, hown, _⟩ := eat_st hE1
  obtain ⟨hprg, _⟩ := eat_prg hE1
  obtain ⟨_, hrl, _, _, ⟨bR, hAR⟩, _⟩ := hprg.uncore
  obtain ⟨r', CR, kr1, kr2, kr3, kr4, kr5⟩ := hAR.get hkR
  obtain rfl : r' = r := Option.some.inj (kr1.symm.trans HR.out)
  have hRk : (k + 1) * 10 ≤ p.R.length * 10 := Nat.mul_le_mul_right _ hkR
  have hrp : nth CR (k * 10) = some (.int .i64 (h : Int)) := by
    have := nth_in (j := 0) kr5 (GRule.head_pred_get r') (by omega)
    rw [hh] at this
    rw [← this]; congr 1; omega
  have hcr : k * 10 < CR.length := by omega
  obtain ⟨X, hX⟩ : ∃ X, X = x.enc := ⟨_, rfl⟩
  rw [← hX] at hcell
  obtain ⟨xl, x0, x1, x2, x3, x4, x5, x6, x7, x8, x9, x10, x11, x12⟩ := eng_cells hX
  rw [hxst] at x3
  rw [kr2, hrl] at x1
  have k0 : (0 : Int) ≤ (k : Int) := by omega
  have k1 : (k : Int) < (p.R.length : Int) := by omega
  have k2 : ((k : Int)).toNat = k := by omega
  have HRUN : Hid (∀ V, W1.Extends V → Calls Try.prog 79 #[.pointer (some ⟨bst, 0, none⟩), .pointer (some ⟨be, 0, none⟩), .agg (plE (k : Int) d y.src.a y.src.len y.src.cap).toArray] V fun e W' => ∃ a n c, e = .returned (.slice a n c) ∧ Outs V W' a n c out) := by
    intro V hV
    have hm := run_any V B O1 g bst S be p.P p.R p.L p.St k r' y.src.a y.src.len y.src.cap (srcOf (p.L k) d) d (eat_menv (hE1.ext hV) hxst HOK.out HS0.out HLN.out HR.out (hy1.ext (core_ext hV)))
    rw [← HOUT.out] at hm
    exact hm
  have HE1 := hid_of hE1
  have HX := hid_of hX
  have HXST := hid_of hxst
  clear hE1 hy1 hsat hprg hrl hAR kr1 kr2 kr4 kr5 hRk hX hown hxst x0 x2 x4 x5 x6 x7 x8 x9 HY0 HE0 hkR h128
  go_upto_region 1 with fail
  refine wp_region_held_drew (S := fun W' => blk W' be = some X ∧ blk W' b3 = some (plE (k : Int) d y.src.a y.src.len y.src.cap) ∧ blk W' bR = some CR) (by kernel_rfl) ⟨hcell, hb3, kr3⟩ (fun hHeld => ?_)
  refine wpAnyH_take (i := 0) (oi := ⟨_, _, _, _, _, _⟩) (v := ?_) rfl (by kernel_rfl) (by kernel_rfl) (by kernel_rfl) (fun _ _ _ h => h) (Or.inl ⟨by rfl, ?_⟩) (by assumption) ?_
  rotate_left 1
  · intro W' hSw
    obtain ⟨hS1, hS2, hS3⟩ := hSw
    go_simp
    try with_reducible rfl
  try simp only [Act.put, List.setIfInBounds_toArray, List.set_cons_zero, List.set_cons_succ]
  refine wpAnyH_take (i := 1) (oi := ⟨_, _, _, _, _, _⟩) (v := ?_) rfl (by kernel_rfl) (by kernel_rfl) (by kernel_rfl) (fun _ _ _ h => h) (Or.inl ⟨by rfl, ?_⟩) (by assumption) ?_
  rotate_left 1
  · intro W' hSw
    obtain ⟨hS1, hS2, hS3⟩ := hSw
    go_simp
    try with_reducible rfl
  try simp only [Act.put, List.setIfInBounds_toArray, List.set_cons_zero, List.set_cons_succ]
  refine wpAnyH_take (i := 2) (oi := ⟨_, _, _, _, _, _⟩) (v := ?_) rfl (by kernel_rfl) (by kernel_rfl) (by kernel_rfl) (fun _ _ _ h => h) (Or.inl ⟨by rfl, ?_⟩) (by assumption) ?_
  rotate_left 1
  · intro W' hSw
    obtain ⟨hS1, hS2, hS3⟩ := hSw
    go_simp
    try with_reducible rfl
  try simp only [Act.put, List.setIfInBounds_toArray, List.set_cons_zero, List.set_cons_succ]
  refine wpAnyH_take (i := 3) (oi := ⟨_, _, _, _, _, _⟩) (v := ?_) rfl (by kernel_rfl) (by kernel_rfl) (by kernel_rfl) (fun _ _ _ h => h) (Or.inl ⟨by rfl, ?_⟩) (by assumption) ?_
  rotate_left 1
  · intro W' hSw
    obtain ⟨hS1, hS2, hS3⟩ := hSw
    go_simp
    try with_reducible rfl
  try simp only [Act.put, List.setIfInBounds_toArray, List.set_cons_zero, List.set_cons_succ]
  refine wpAnyH_take (i := 4) (oi := ⟨_, _, _, _, _, _⟩) (v := ?_) rfl (by kernel_rfl) (by kernel_rfl) (by kernel_rfl) (fun _ _ _ h => h) (Or.inl ⟨by rfl, ?_⟩) (by assumption) ?_
  rotate_left 1
  · intro W' hSw
    obtain ⟨hS1, hS2, hS3⟩ := hSw
    go_simp
    try with_reducible rfl
  try simp only [Act.put, List.setIfInBounds_toArray, List.set_cons_zero, List.set_cons_succ]
  refine wpAnyH_take (i := 5) (oi := ⟨_, _, _, _, _, _⟩) (v := ?_) rfl (by kernel_rfl) (by kernel_rfl) (by kernel_rfl) (fun _ _ _ h => h) (Or.inl ⟨by rfl, ?_⟩) (by assumption) ?_
  rotate_left 1
  · intro W' hSw
    obtain ⟨hS1, hS2, hS3⟩ := hSw
    go_simp
    try with_reducible rfl
  try simp only [Act.put, List.setIfInBounds_toArray, List.set_cons_zero, List.set_cons_succ]
  refine wpAnyH_take (i := 6) (oi := ⟨_, _, _, _, _, _⟩) (v := ?_) rfl (by kernel_rfl) (by kernel_rfl) (by kernel_rfl) (fun _ _ _ h => h) (Or.inl ⟨by rfl, ?_⟩) (by assumption) ?_
  rotate_left 1
  · intro W' hSw
    obtain ⟨hS1, hS2, hS3⟩ := hSw
    go_simp
    try with_reducible rfl
  try simp only [Act.put, List.setIfInBounds_toArray, List.set_cons_zero, List.set_cons_succ]
  refine wpAnyH_take (i := 7) (oi := ⟨_, _, _, _, _, _⟩) (v := ?_) rfl (by kernel_rfl) (by kernel_rfl) (by kernel_rfl) (fun _ _ _ h => h) (Or.inl ⟨by rfl, ?_⟩) (by assumption) ?_
  rotate_left 1
  · intro W' hSw
    obtain ⟨hS1, hS2, hS3⟩ := hSw
    go_simp
    try with_reducible rfl
  try simp only [Act.put, List.setIfInBounds_toArray, List.set_cons_zero, List.set_cons_succ]
  refine wpAnyH_take (i := 8) (oi := ⟨_, _, _, _, _, _⟩) (v := ?_) rfl (by kernel_rfl) (by kernel_rfl) (by kernel_rfl) (fun _ _ _ h => h) (Or.inl ⟨by rfl, ?_⟩) (by assumption) ?_
  rotate_left 1
  · intro W' hSw
    obtain ⟨hS1, hS2, hS3⟩ := hSw
    go_simp
    try with_reducible rfl
  try simp only [Act.put, List.setIfInBounds_toArray, List.set_cons_zero, List.set_cons_succ]
  refine wpAnyH_take (i := 9) (oi := ⟨_, _, _, _, _, _⟩) (v := ?_) rfl (by kernel_rfl) (by kernel_rfl) (by kernel_rfl) (fun _ _ _ h => h) (Or.inl ⟨by rfl, ?_⟩) (by assumption) ?_
  rotate_left 1
  · intro W' hSw
    obtain ⟨hS1, hS2, hS3⟩ := hSw
    go_simp
    try with_reducible rfl
  try simp only [Act.put, List.setIfInBounds_toArray, List.set_cons_zero, List.set_cons_succ]
  refine wpAnyH_take (i := 10) (oi := ⟨_, _, _, _, _, _⟩) (v := ?_) rfl (by kernel_rfl) (by kernel_rfl) (by kernel_rfl) (fun _ _ _ h => h) (Or.inl ⟨by rfl, ?_⟩) (by assumption) ?_
  rotate_left 1
  · intro W' hSw
    obtain ⟨hS1, hS2, hS3⟩ := hSw
    go_simp
    try with_reducible rfl
  try simp only [Act.put, List.setIfInBounds_toArray, List.set_cons_zero, List.set_cons_succ]
  refine wpAnyH_take (i := 11) (oi := ⟨_, _, _, _, _, _⟩) (v := ?_) rfl (by kernel_rfl) (by kernel_rfl) (by kernel_rfl) (fun _ _ _ h => h) (Or.inl ⟨by rfl, ?_⟩) (by assumption) ?_
  rotate_left 1
  · intro W' hSw
    obtain ⟨hS1, hS2, hS3⟩ := hSw
    go_simp
    try with_reducible rfl
  try simp only [Act.put, List.setIfInBounds_toArray, List.set_cons_zero, List.set_cons_succ]
  refine wpAnyH_done (by kernel_rfl) ?_ _
  go_upto_region 2 with fail
  refine wp_region_held_drew (S := fun W' => blk W' be = some X ∧ blk W' b3 = some (plE (k : Int) d y.src.a y.src.len y.src.cap) ∧ blk W' bR = some CR) (by kernel_rfl) ⟨hcell, hb3, kr3⟩ (fun hHeld => ?_)
  refine wpAnyH_take (i := 0) (oi := ⟨_, _, _, _, _, _⟩) (v := ?_) rfl (by kernel_rfl) (by kernel_rfl) (by kernel_rfl) (fun _ _ _ h => h) (Or.inl ⟨by rfl, ?_⟩) (by assumption) ?_
  rotate_left 1
  · intro W' hSw
    obtain ⟨hS1, hS2, hS3⟩ := hSw
    go_simp
    try with_reducible rfl
  try simp only [Act.put, List.setIfInBounds_toArray, List.set_cons_zero, List.set_cons_succ]
  refine wpAnyH_take (i := 1) (oi := ⟨_, _, _, _, _, _⟩) (v := ?_) rfl (by kernel_rfl) (by kernel_rfl) (by kernel_rfl) (fun _ _ _ h => h) (Or.inl ⟨by rfl, ?_⟩) (by assumption) ?_
  rotate_left 1
  · intro W' hSw
    obtain ⟨hS1, hS2, hS3⟩ := hSw
    go_simp
    try with_reducible rfl
  try simp only [Act.put, List.setIfInBounds_toArray, List.set_cons_zero, List.set_cons_succ]
  refine wpAnyH_take (i := 2) (oi := ⟨_, _, _, _, _, _⟩) (v := ?_) rfl (by kernel_rfl) (by kernel_rfl) (by kernel_rfl) (fun _ _ _ h => h) (Or.inl ⟨by rfl, ?_⟩) (by assumption) ?_
  rotate_left 1
  · intro W' hSw
    obtain ⟨hS1, hS2, hS3⟩ := hSw
    go_simp
    try with_reducible rfl
  try simp only [Act.put, List.setIfInBounds_toArray, List.set_cons_zero, List.set_cons_succ]
  refine wpAnyH_take (i := 3) (oi := ⟨_, _, _, _, _, _⟩) (v := ?_) rfl (by kernel_rfl) (by kernel_rfl) (by kernel_rfl) (fun _ _ _ h => h) (Or.inl ⟨by rfl, ?_⟩) (by assumption) ?_
  rotate_left 1
  · intro W' hSw
    obtain ⟨hS1, hS2, hS3⟩ := hSw
    go_simp
    try with_reducible rfl
  try simp only [Act.put, List.setIfInBounds_toArray, List.set_cons_zero, List.set_cons_succ]
  refine wpAnyH_take (i := 4) (oi := ⟨_, _, _, _, _, _⟩) (v := ?_) rfl (by kernel_rfl) (by kernel_rfl) (by kernel_rfl) (fun _ _ _ h => h) (Or.inl ⟨by rfl, ?_⟩) (by assumption) ?_
  rotate_left 1
  · intro W' hSw
    obtain ⟨hS1, hS2, hS3⟩ := hSw
    go_simp
    try with_reducible rfl
  try simp only [Act.put, List.setIfInBounds_toArray, List.set_cons_zero, List.set_cons_succ]
  refine wpAnyH_take (i := 5) (oi := ⟨_, _, _, _, _, _⟩) (v := ?_) rfl (by kernel_rfl) (by kernel_rfl) (by kernel_rfl) (fun _ _ _ h => h) (Or.inl ⟨by rfl, ?_⟩) (by assumption) ?_
  rotate_left 1
  · intro W' hSw
    obtain ⟨hS1, hS2, hS3⟩ := hSw
    go_simp
    try with_reducible rfl
  try simp only [Act.put, List.setIfInBounds_toArray, List.set_cons_zero, List.set_cons_succ]
  refine wpAnyH_take (i := 6) (oi := ⟨_, _, _, _, _, _⟩) (v := ?_) rfl (by kernel_rfl) (by kernel_rfl) (by kernel_rfl) (fun _ _ _ h => h) (Or.inl ⟨by rfl, ?_⟩) (by assumption) ?_
  rotate_left 1
  · intro W' hSw
    obtain ⟨hS1, hS2, hS3⟩ := hSw
    go_simp
    try with_reducible rfl
  try simp only [Act.put, List.setIfInBounds_toArray, List.set_cons_zero, List.set_cons_succ]
  refine wpAnyH_take (i := 7) (oi := ⟨_, _, _, _, _, _⟩) (v := ?_) rfl (by kernel_rfl) (by kernel_rfl) (by kernel_rfl) (fun _ _ _ h => h) (Or.inl ⟨by rfl, ?_⟩) (by assumption) ?_
  rotate_left 1
  · intro W' hSw
    obtain ⟨hS1, hS2, hS3⟩ := hSw
    go_simp
    try with_reducible rfl
  try simp only [Act.put, List.setIfInBounds_toArray, List.set_cons_zero, List.set_cons_succ]
  refine wpAnyH_ready (rs := [8]) (by kernel_rfl) (by simp) ?_
  refine AllReadyH.cons (o := ⟨_, _, _, _, _, _⟩) rfl (fun K' hK => ?_) AllReadyH.nil
  go_simp
  refine (HRUN.out _ ?_).mono ?_
  · (repeat (first | assumption | exact ext_Ext (Ext.refl _) | apply extends_drew | apply extends_alloc | (refine extends_put ?_ (by first | exact Nat.le_refl _ | assumption | omega) _)))
  rintro en V2 ⟨a, n, c, rfl, ho2⟩
  dsimp only
  have HO2 := hid_of ho2
  have hcell2 : blk V2 be = some X := (ho2.2.1.blk (blk_lt hcell)).trans hcell
  have hfre2 : free V2 be = true := (free_of_heap (ho2.2.1.block be (blk_lt hcell))).trans hfre
  have hb32 : blk V2 b3 = some (plE (k : Int) d y.src.a y.src.len y.src.cap) := (ho2.2.1.blk (blk_lt hb3)).trans hb3
  have hbR2 : blk V2 bR = some CR := (ho2.2.1.blk (blk_lt kr3)).trans kr3
  clear ho2 hcell hfre hb3 kr3
  refine hK.out _ _ ⟨hcell2, hb32, hbR2⟩ (fun hHeld => ?_)
  clear hK K'
  try simp only [Act.put, List.setIfInBounds_toArray, List.set_cons_zero, List.set_cons_succ]
  refine wpAnyH_take (i := 9) (oi := ⟨_, _, _, _, _, _⟩) (v := ?_) rfl (by kernel_rfl) (by kernel_rfl) (by kernel_rfl) (fun _ _ _ h => h) (Or.inl ⟨by rfl, ?_⟩) (by assumption) ?_
  rotate_left 1
  · intro W' hSw
    obtain ⟨hS1, hS2, hS3⟩ := hSw
    go_simp
    try with_reducible rfl
  try simp only [Act.put, List.setIfInBounds_toArray, List.set_cons_zero, List.set_cons_succ]
  refine wpAnyH_done (by kernel_rfl) ?_ _
  clear hHeld hb32 hbR2 hrp hcr k0 k1 k2
  go_upto_region 4 with fail
  obtain ⟨xa, hxa⟩ : ∃ xa : Engine, xa = { x with stats := { x.stats with fired := wrap64 (x.stats.fired + 1) } } := ⟨_, rfl⟩
  have hs : splice X 10 [.int .i64 (wrap64 (x.stats.fired + 1))] = xa.enc := by rw [hxa, HX.out, Engine.stats_fired_set]
  refine wp_world (fun V => blk V be = some xa.enc ∧ free V be = true ∧ V = put V2 be xa.enc) ⟨?_, ?_, ?_⟩ ?_
  · rw [hs, blk_put, if_pos rfl, hcell2]; rfl
  · rw [free_put]; exact hfre2
  · rw [hs]
  rintro V3 ⟨hcell3, hfre3, hV3⟩
  have HV3 := hid_of hV3
  obtain ⟨X3, hX3⟩ : ∃ X3, X3 = xa.enc := ⟨_, rfl⟩
  rw [← hX3] at hcell3
  obtain ⟨yl, _, _, _, y3, _, _, _, _, _, y9, y10, y11, y12⟩ := eng_cells hX3
  have e11 : xa.stats.emitted = x.stats.emitted := by rw [hxa]
  rw [e11] at y11
  have HX3 := hid_of hX3
  have HXA := hid_of hxa
  clear hV3 hs hxa hX3 hcell2 hfre2 xl x1 x3 x10 x11 x12 e11
  go_upto_region 5 with fail
  have hon := HO2.out.2.2
  subst hon
  obtain ⟨xb, hxb⟩ : ∃ xb : Engine, xb = xF x out (frN x.stats.fresh 0) := ⟨_, rfl⟩
  have hs : splice X3 11 [.int .i64 (wrap64 (x.stats.emitted + (out.length : Nat)))] = xb.enc := by rw [hxb, HX3.out, Engine.stats_emitted_set, HXA.out]; rfl
  refine wp_world (fun V => blk V be = some xb.enc ∧ free V be = true ∧ V = put V2 be xb.enc) ⟨?_, ?_, ?_⟩ ?_
  · rw [hs, blk_put, if_pos rfl, hcell3]; rfl
  · rw [free_put]; exact hfre3
  · rw [hs, HV3.out, put_put]
  rintro V4 ⟨hcell4, hfre4, hV4⟩
  obtain ⟨O4, hO4⟩ : ∃ O4, O4 = lab O1 W1.heap.size .no := ⟨_, rfl⟩
  have hx12 : W1.Extends V2 := Go.World.Extends.trans (by (repeat (first | assumption | exact ext_Ext (Ext.refl _) | apply extends_drew | apply extends_alloc | (refine extends_put ?_ (by first | exact Nat.le_refl _ | assumption | omega) _)))) HO2.out.2.1
  have hE2 : EAt B O4 V2 g be p x S sav := by rw [hO4]; exact HE1.out.new hx12 _
  obtain ⟨hE4, hfr4⟩ := hE2.cells xb (by rw [hxb]; rfl) (by rw [hxb]; rfl) (by rw [hxb]; rfl) (by rw [hxb]; rfl)
  rw [← hV4] at hE4 hfr4
  have hrw2 : Rw tpl 4 (core O4 V2) a out.length out := by
    rw [hO4]
    refine (outs_rw HO2.out).1.tocore (fun b C e _ => lab_ge ?_)
    have h1 := row_at HO2.out.1 b (by rw [e]; rfl)
    exact Nat.le_trans (by simp) h1.1
  have hrw4 : Rw tpl 4 (core O4 V4) a out.length out := hrw2.grow (core_fr hfr4 (isE_no g))
  have HF4 : Hid (Fr (isE g) O1 W1 O4 V4) := by
    show Fr _ _ _ _ _
    rw [hO4] at hfr4 ⊢
    exact fr_lab hfr4 hx12
  have hxst4 : xb.st = some ⟨bst, 0, none⟩ := by rw [hxb]; exact HXST.out
  have hlen4 := len_any B O4 V4.drew g bst S ((eat_bst hE4 hxst4).2.2.1.ext (extd _)) (3 * h) F HSF.out
  obtain ⟨X4, hX4⟩ : ∃ X4, X4 = xb.enc := ⟨_, rfl⟩
  rw [← hX4] at hcell4
  obtain ⟨yl, _, _, _, y3, _, _, _, _, _, y9, y10, y11, y12⟩ := eng_cells hX4
  rw [hxst4] at y3
  have hfull4 := full_any V4.drew h (by omega)
  have HXB := hid_of hxb
  have HX4 := hid_of hX4
  have HE4 := hid_of hE4
  have HRW4 := hid_of hrw4
  clear hV4 hO4 hx12 hE2 hfr4 hrw2 hE4 hrw4 hs hX4 hxb HV3 HX3 HXA hcell3 hfre3 y9 y10 y11 y12
  refine wp_region_held_drew (S := fun W' => blk W' be = some X4) (by kernel_rfl) hcell4 (fun hHeld => ?_)
  refine wpAnyH_take (i := 0) (oi := ⟨_, _, _, _, _, _⟩) (v := ?_) rfl (by kernel_rfl) (by kernel_rfl) (by kernel_rfl) (fun _ _ _ h => h) (Or.inl ⟨by rfl, ?_⟩) (by assumption) ?_
  rotate_left 1
  · intro W' hSw
    go_simp
    try with_reducible rfl
  try simp only [Act.put, List.setIfInBounds_toArray, List.set_cons_zero, List.set_cons_succ]
  refine wpAnyH_take (i := 1) (oi := ⟨_, _, _, _, _, _⟩) (v := ?_) rfl (by kernel_rfl) (by kernel_rfl) (by kernel_rfl) (fun _ _ _ h => h) (Or.inl ⟨by rfl, ?_⟩) (by assumption) ?_
  rotate_left 1
  · intro W' hSw
    go_simp
    try with_reducible rfl
  try simp only [Act.put, List.setIfInBounds_toArray, List.set_cons_zero, List.set_cons_succ]
  refine wpAnyH_take (i := 2) (oi := ⟨_, _, _, _, _, _⟩) (v := ?_) rfl (by kernel_rfl) (by kernel_rfl) (by kernel_rfl) (fun _ _ _ h => h) (Or.inl ⟨by rfl, ?_⟩) (by assumption) ?_
  rotate_left 1
  · intro W' hSw
    go_simp
    try with_reducible rfl
  try simp only [Act.put, List.setIfInBounds_toArray, List.set_cons_zero, List.set_cons_succ]
  refine wpAnyH_take (i := 3) (oi := ⟨_, _, _, _, _, _⟩) (v := ?_) rfl (by kernel_rfl) (by kernel_rfl) (by kernel_rfl) (fun _ _ _ h => h) (Or.inl ⟨by rfl, ?_⟩) (by assumption) ?_
  rotate_left 1
  · intro W' hSw
    go_simp
    try with_reducible rfl
  try simp only [Act.put, List.setIfInBounds_toArray, List.set_cons_zero, List.set_cons_succ]
  refine wpAnyH_take (i := 4) (oi := ⟨_, _, _, _, _, _⟩) (v := ?_) rfl (by kernel_rfl) (by kernel_rfl) (by kernel_rfl) (fun _ _ _ h => h) (Or.inl ⟨by rfl, ?_⟩) (by assumption) ?_
  rotate_left 1
  · intro W' hSw
    go_simp
    try with_reducible rfl
  try simp only [Act.put, List.setIfInBounds_toArray, List.set_cons_zero, List.set_cons_succ]
  refine wpAnyH_ready (rs := [5]) (by kernel_rfl) (by simp) ?_
  refine AllReadyH.cons (o := ⟨_, _, _, _, _, _⟩) rfl (fun K' hK => ?_) AllReadyH.nil
  go_simp
  refine hfull4.mono ?_
  rintro en V5 ⟨rfl, rfl⟩
  dsimp only
  refine hK.out _ _ hcell4 (fun hHeld => ?_)
  clear hK K'
  try simp only [Act.put, List.setIfInBounds_toArray, List.set_cons_zero, List.set_cons_succ]
  refine wpAnyH_ready (rs := [6]) (by kernel_rfl) (by simp) ?_
  refine AllReadyH.cons (o := ⟨_, _, _, _, _, _⟩) rfl (fun K' hK => ?_) AllReadyH.nil
  go_simp
  refine hlen4.mono ?_
  rintro en V5 ⟨rfl, rfl⟩
  dsimp only
  refine hK.out _ _ hcell4 (fun hHeld => ?_)
  clear hK K'
  try simp only [Act.put, List.setIfInBounds_toArray, List.set_cons_zero, List.set_cons_succ]
  refine wpAnyH_take (i := 7) (oi := ⟨_, _, _, _, _, _⟩) (v := ?_) rfl (by kernel_rfl) (by kernel_rfl) (by kernel_rfl) (fun _ _ _ h => h) (Or.inl ⟨by rfl, ?_⟩) (by assumption) ?_
  rotate_left 1
  · intro W' hSw
    go_simp
    try with_reducible rfl
  try simp only [Act.put, List.setIfInBounds_toArray, List.set_cons_zero, List.set_cons_succ]
  refine wpAnyH_take (i := 8) (oi := ⟨_, _, _, _, _, _⟩) (v := ?_) rfl (by kernel_rfl) (by kernel_rfl) (by kernel_rfl) (fun _ _ _ h => h) (Or.inl ⟨by rfl, ?_⟩) (by assumption) ?_
  rotate_left 1
  · intro W' hSw
    go_simp
    try with_reducible rfl
  try simp only [Act.put, List.setIfInBounds_toArray, List.set_cons_zero, List.set_cons_succ]
  refine wpAnyH_take (i := 9) (oi := ⟨_, _, _, _, _, _⟩) (v := ?_) rfl (by kernel_rfl) (by kernel_rfl) (by kernel_rfl) (fun _ _ _ h => h) (Or.inl ⟨by rfl, ?_⟩) (by assumption) ?_
  rotate_left 1
  · intro W' hSw
    go_simp
    try with_reducible rfl
  try simp only [Act.put, List.setIfInBounds_toArray, List.set_cons_zero, List.set_cons_succ]
  refine wpAnyH_take (i := 10) (oi := ⟨_, _, _, _, _, _⟩) (v := ?_) rfl (by kernel_rfl) (by kernel_rfl) (by kernel_rfl) (fun _ _ _ h => h) (Or.inl ⟨by rfl, ?_⟩) (by assumption) ?_
  rotate_left 1
  · intro W' hSw
    go_simp
    try with_reducible rfl
  try simp only [Act.put, List.setIfInBounds_toArray, List.set_cons_zero, List.set_cons_succ]
  refine wpAnyH_take (i := 11) (oi := ⟨_, _, _, _, _, _⟩) (v := ?_) rfl (by kernel_rfl) (by kernel_rfl) (by kernel_rfl) (fun _ _ _ h => h) (Or.inl ⟨by rfl, ?_⟩) (by assumption) ?_
  rotate_left 1
  · intro W' hSw
    go_simp
    try with_reducible rfl
  try simp only [Act.put, List.setIfInBounds_toArray, List.set_cons_zero, List.set_cons_succ]
  refine wpAnyH_done (by kernel_rfl) ?_ _
  clear hHeld hlen4 hfull4 yl y3 hcell4 hfre4
  go_upto_region 7 with fail
  have hlen : out.length ≤ 4294967296 := by
    rw [HOUT.out]
    exact (goM_ok HS0.out (HOK.out.head k r' HR.out).fit _ _ _ (fun z hz => (HOK.out.lits k r' HR.out _ (List.of_mem_zip hz).1).fit) eok_zero outOk_nil).len
  have HI0 : Hid (F.length + (newL F N (out.take 0)).length ≤ 512 ∧ ∃ O', Fr (isE g) O1 W1 O' V4.drew ∧ EAt B O' V4.drew g be p (xF x out (frN x.stats.fresh ((newL F N (out.take 0)).length - N.length))) (S.set (3 * h + 2) (newL F N (out.take 0))) sav ∧ Rw tpl 4 (core O' V4.drew) a out.length out) := by
    rw [List.take_zero, show newL F N [] = N from rfl, Nat.sub_self, set_same HSN.out]
    refine ⟨hFN, O4, HF4.out.drew, ?_, HRW4.out.grow (core_ext (extd _))⟩
    rw [← HXB.out]
    exact HE4.out.ext (extd _)
  refine wp_loop_f 125 (fiI B O1 W1 g be p x S sav h F N out a out.length c) (fun f _ => out.length - (intOf (f 9)).toNat) rfl ⟨rfl, rfl, rfl, rfl, 0, by omega, rfl, HI0⟩ ?_
  clear HI0 HE4 HRW4 HXB HX4 HF4 hxst4 HO2 HRUN HX
  intro f V hrel
  obtain ⟨f0, f5, f6, f7, i, hi, f9, HI⟩ := hrel
  have H9 := hid_of f9
  rw [frame125, f0, f5, f6, f7, f9]
  clear f0 f5 f6 f7 f9
  obtain ⟨hsum, O', hFr, hEA, hRw⟩ := HI.out
  obtain ⟨Ni, hNi⟩ : ∃ Ni, Ni = newL F N (out.take i) := ⟨_, rfl⟩
  rw [← hNi] at hsum hEA
  obtain ⟨xi, hxi⟩ : ∃ xi, xi = xF x out (frN x.stats.fresh (Ni.length - N.length)) := ⟨_, rfl⟩
  rw [← hxi] at hEA
  have hNN : N.length ≤ Ni.length := by rw [hNi]; exact newL_mono F _ N
  by_cases hin : i < out.length
  · have hin' : (i : Int) < (out.length : Int) := by omega
    have hxst : xi.st = some ⟨bst, 0, none⟩ := by rw [hxi]; exact HXST.out
    obtain ⟨hcell, hfre, hsat, hown, _⟩ := eat_bst hEA hxst
    obtain ⟨X, hX⟩ : ∃ X, X = xi.enc := ⟨_, rfl⟩
    rw [← hX] at hcell
    obtain ⟨xl, _, _, _, x3, _, _, _, _, _, _, _, _, x12⟩ := eng_cells hX
    rw [hxst] at x3
    obtain ⟨t, ht⟩ : ∃ t, out[i]? = some t := ⟨_, List.getElem?_eq_getElem hin⟩
    obtain ⟨bn, Cn, ha, hCn0, hcn, _, un⟩ := tup_at hRw ht
    have hCn := (core_blk hCn0).1
    subst ha
    have hlS := HLN.out
    have hSiF : (S.set (3 * h + 2) Ni)[3 * h]? = some F := by rw [List.getElem?_set_ne (by omega)]; exact HSF.out
    have hSiN : (S.set (3 * h + 2) Ni)[3 * h + 2]? = some Ni := by rw [List.getElem?_set_self (by omega)]
    have p0 : (0 : Int) ≤ (i : Int) := by omega
    have p2 : ((i : Int)).toNat = i := by omega
    have p5 : i * 4 < Cn.length := by omega
    have HTK : out.take (i + 1) = out.take i ++ [t] := take_at ht
    have hfull := full_any V.drew h (by omega)
    have hcont := contains_any B O' V.drew g bst _ (hsat.ext (extd _)) (3 * h) F hSiF (by omega) t
    have HNI := hid_of hNi
    have HXI := hid_of hxi
    have HEA := hid_of hEA
    have HFR := hid_of hFr
    have HRW := hid_of hRw
    have HX := hid_of hX
    have HTK' := hid_of HTK
    have HTI := hid_of ht
    have HXS := hid_of hxst
    have HSI := hid_of hSiN
    clear HI hNi hxi hEA hFr hRw hX HTK hsat ht hCn0 hlS hSiF hSiN hxst hown
    go_upto_region 9 with fail
    refine wp_region_held_drew (S := fun W' => blk W' be = some X ∧ blk W' bn = some Cn) (by kernel_rfl) ⟨hcell, hCn⟩ (fun hHeld => ?_)
    refine wpAnyH_take (i := 0) (oi := ⟨_, _, _, _, _, _⟩) (v := ?_) rfl (by kernel_rfl) (by kernel_rfl) (by kernel_rfl) (fun _ _ _ h => h) (Or.inl ⟨by rfl, ?_⟩) (by assumption) ?_
    rotate_left 1
    · intro W' hSw
      obtain ⟨hS1, hS2⟩ := hSw
      go_simp
      try with_reducible rfl
    try simp only [Act.put, List.setIfInBounds_toArray, List.set_cons_zero, List.set_cons_succ]
    refine wpAnyH_take (i := 1) (oi := ⟨_, _, _, _, _, _⟩) (v := ?_) rfl (by kernel_rfl) (by kernel_rfl) (by kernel_rfl) (fun _ _ _ h => h) (Or.inl ⟨by rfl, ?_⟩) (by assumption) ?_
    rotate_left 1
    · intro W' hSw
      obtain ⟨hS1, hS2⟩ := hSw
      go_simp
      try with_reducible rfl
    try simp only [Act.put, List.setIfInBounds_toArray, List.set_cons_zero, List.set_cons_succ]
    refine wpAnyH_take (i := 2) (oi := ⟨_, _, _, _, _, _⟩) (v := ?_) rfl (by kernel_rfl) (by kernel_rfl) (by kernel_rfl) (fun _ _ _ h => h) (Or.inl ⟨by rfl, ?_⟩) (by assumption) ?_
    rotate_left 1
    · intro W' hSw
      obtain ⟨hS1, hS2⟩ := hSw
      go_simp
      try with_reducible rfl
    try simp only [Act.put, List.setIfInBounds_toArray, List.set_cons_zero, List.set_cons_succ]
    refine wpAnyH_take (i := 3) (oi := ⟨_, _, _, _, _, _⟩) (v := ?_) rfl (by kernel_rfl) (by kernel_rfl) (by kernel_rfl) (fun _ _ _ h => h) (Or.inl ⟨by rfl, ?_⟩) (by assumption) ?_
    rotate_left 1
    · intro W' hSw
      obtain ⟨hS1, hS2⟩ := hSw
      go_simp
      try with_reducible rfl
    try simp only [Act.put, List.setIfInBounds_toArray, List.set_cons_zero, List.set_cons_succ]
    refine wpAnyH_take (i := 4) (oi := ⟨_, _, _, _, _, _⟩) (v := ?_) rfl (by kernel_rfl) (by kernel_rfl) (by kernel_rfl) (fun _ _ _ h => h) (Or.inl ⟨by rfl, ?_⟩) (by assumption) ?_
    rotate_left 1
    · intro W' hSw
      obtain ⟨hS1, hS2⟩ := hSw
      go_simp
      try with_reducible rfl
    try simp only [Act.put, List.setIfInBounds_toArray, List.set_cons_zero, List.set_cons_succ]
    refine wpAnyH_take (i := 6) (oi := ⟨_, _, _, _, _, _⟩) (v := ?_) rfl (by kernel_rfl) (by kernel_rfl) (by kernel_rfl) (fun _ _ _ h => h) (Or.inl ⟨by rfl, ?_⟩) (by assumption) ?_
    rotate_left 1
    · intro W' hSw
      obtain ⟨hS1, hS2⟩ := hSw
      go_simp
      try with_reducible rfl
    try simp only [Act.put, List.setIfInBounds_toArray, List.set_cons_zero, List.set_cons_succ]
    refine wpAnyH_take (i := 7) (oi := ⟨_, _, _, _, _, _⟩) (v := ?_) rfl (by kernel_rfl) (by kernel_rfl) (by kernel_rfl) (fun _ _ _ h => h) (Or.inl ⟨by rfl, ?_⟩) (by assumption) ?_
    rotate_left 1
    · intro W' hSw
      obtain ⟨hS1, hS2⟩ := hSw
      go_simp
      try with_reducible rfl
    try simp only [Act.put, List.setIfInBounds_toArray, List.set_cons_zero, List.set_cons_succ]
    refine wpAnyH_take (i := 8) (oi := ⟨_, _, _, _, _, _⟩) (v := ?_) rfl (by kernel_rfl) (by kernel_rfl) (by kernel_rfl) (fun _ _ _ h => h) (Or.inl ⟨by rfl, ?_⟩) (by assumption) ?_
    rotate_left 1
    · intro W' hSw
      obtain ⟨hS1, hS2⟩ := hSw
      go_simp
      try with_reducible rfl
    try simp only [Act.put, List.setIfInBounds_toArray, List.set_cons_zero, List.set_cons_succ]
    refine wpAnyH_take (i := 9) (oi := ⟨_, _, _, _, _, _⟩) (v := ?_) rfl (by kernel_rfl) (by kernel_rfl) (by kernel_rfl) (fun _ _ _ h => h) (Or.inl ⟨by rfl, ?_⟩) (by assumption) ?_
    rotate_left 1
    · intro W' hSw
      obtain ⟨hS1, hS2⟩ := hSw
      go_simp
      try with_reducible rfl
    try simp only [Act.put, List.setIfInBounds_toArray, List.set_cons_zero, List.set_cons_succ]
    refine wpAnyH_ready (rs := [5]) (by kernel_rfl) (by simp) ?_
    refine AllReadyH.cons (o := ⟨_, _, _, _, _, _⟩) rfl (fun K' hK => ?_) AllReadyH.nil
    go_simp
    refine hfull.mono ?_
    rintro en V5 ⟨rfl, rfl⟩
    dsimp only
    refine hK.out _ _ ⟨hcell, hCn⟩ (fun hHeld => ?_)
    clear hK K'
    try simp only [Act.put, List.setIfInBounds_toArray, List.set_cons_zero, List.set_cons_succ]
    refine wpAnyH_ready (rs := [10]) (by kernel_rfl) (by simp) ?_
    refine AllReadyH.cons (o := ⟨_, _, _, _, _, _⟩) rfl (fun K' hK => ?_) AllReadyH.nil
    go_simp
    refine hcont.mono ?_
    rintro en V6 ⟨rfl, hx6⟩
    dsimp only
    refine hK.out _ _ ⟨(((extd V).trans hx6).blk (blk_lt hcell)).trans hcell, (((extd V).trans hx6).blk (blk_lt hCn)).trans hCn⟩ (fun hHeld => ?_)
    clear hK K'
    try simp only [Act.put, List.setIfInBounds_toArray, List.set_cons_zero, List.set_cons_succ]
    refine wpAnyH_take (i := 11) (oi := ⟨_, _, _, _, _, _⟩) (v := ?_) rfl (by kernel_rfl) (by kernel_rfl) (by kernel_rfl) (fun _ _ _ h => h) (Or.inl ⟨by rfl, ?_⟩) (by assumption) ?_
    rotate_left 1
    · intro W' hSw
      obtain ⟨hS1, hS2⟩ := hSw
      go_simp
      try with_reducible rfl
    try simp only [Act.put, List.setIfInBounds_toArray, List.set_cons_zero, List.set_cons_succ]
    refine wpAnyH_take (i := 12) (oi := ⟨_, _, _, _, _, _⟩) (v := ?_) rfl (by kernel_rfl) (by kernel_rfl) (by kernel_rfl) (fun _ _ _ h => h) (Or.inl ⟨by rfl, ?_⟩) (by assumption) ?_
    rotate_left 1
    · intro W' hSw
      obtain ⟨hS1, hS2⟩ := hSw
      go_simp
      try with_reducible rfl
    try simp only [Act.put, List.setIfInBounds_toArray, List.set_cons_zero, List.set_cons_succ]
    refine wpAnyH_take (i := 13) (oi := ⟨_, _, _, _, _, _⟩) (v := ?_) rfl (by kernel_rfl) (by kernel_rfl) (by kernel_rfl) (fun _ _ _ h => h) (Or.inl ⟨by rfl, ?_⟩) (by assumption) ?_
    rotate_left 1
    · intro W' hSw
      obtain ⟨hS1, hS2⟩ := hSw
      go_simp
      try with_reducible rfl
    try simp only [Act.put, List.setIfInBounds_toArray, List.set_cons_zero, List.set_cons_succ]
    refine wpAnyH_take (i := 14) (oi := ⟨_, _, _, _, _, _⟩) (v := ?_) rfl (by kernel_rfl) (by kernel_rfl) (by kernel_rfl) (fun _ _ _ h => h) (Or.inl ⟨by rfl, ?_⟩) (by assumption) ?_
    rotate_left 1
    · intro W' hSw
      obtain ⟨hS1, hS2⟩ := hSw
      go_simp
      try with_reducible rfl
    try simp only [Act.put, List.setIfInBounds_toArray, List.set_cons_zero, List.set_cons_succ]
    refine wpAnyH_take (i := 15) (oi := ⟨_, _, _, _, _, _⟩) (v := ?_) rfl (by kernel_rfl) (by kernel_rfl) (by kernel_rfl) (fun _ _ _ h => h) (Or.inl ⟨by rfl, ?_⟩) (by assumption) ?_
    rotate_left 1
    · intro W' hSw
      obtain ⟨hS1, hS2⟩ := hSw
      go_simp
      try with_reducible rfl
    try simp only [Act.put, List.setIfInBounds_toArray, List.set_cons_zero, List.set_cons_succ]
    refine wpAnyH_done (by kernel_rfl) ?_ _
    have hxV : V.Extends V6 := (extd V).trans hx6
    have hcell6 : blk V6 be = some X := (hxV.blk (blk_lt hcell)).trans hcell
    have hfre6 : free V6 be = true := (free_of_heap (hxV.block be (blk_lt hcell))).trans hfre
    have hCn6 : blk V6 bn = some Cn := (hxV.blk (blk_lt hCn)).trans hCn
    have HE6 : Hid (EAt B O' V6 g be p xi (S.set (3 * h + 2) Ni) sav) := HEA.out.ext hxV
    have HF6 : Hid (Fr (isE g) O1 W1 O' V6) := HFR.out.trans (Fr.of_extends hxV)
    have HR6 : Hid (Rw tpl 4 (core O' V6) (some ⟨bn, 0, none⟩) out.length out) := HRW.out.grow (core_ext hxV)
    clear hHeld hx6 hxV hcell hfre hCn HEA HFR HRW
    by_cases htF : t ∈ F
    · have hde : decide (t ∈ F) = true := decide_eq_true htF
      have HI' : Hid (F.length + (newL F N (out.take (i + 1))).length ≤ 512 ∧ ∃ O', Fr (isE g) O1 W1 O' V6 ∧ EAt B O' V6 g be p (xF x out (frN x.stats.fresh ((newL F N (out.take (i + 1))).length - N.length))) (S.set (3 * h + 2) (newL F N (out.take (i + 1)))) sav ∧ Rw tpl 4 (core O' V6) (some ⟨bn, 0, none⟩) out.length out) := by
        rw [HTK'.out, newL_snoc, if_pos htF, ← HNI.out]
        exact ⟨hsum, O', HF6.out, by rw [← HXI.out]; exact HE6.out, HR6.out⟩
      clear HE6 HF6 HR6
      go_wp2_with fail
      refine ⟨rfl, rfl, ⟨rfl, rfl, rfl, rfl, i + 1, by omega, ?_, HI'⟩, ?_⟩
      · show Value.int .i64 _ = _
        go_num
      · show out.length - (intOf (Value.int .i64 _)).toNat < out.length - (intOf (f 9)).toNat
        rw [H9.out]
        simp [intOf]; omega
    have hde : decide (t ∈ F) = false := decide_eq_false htF
    have hnext := next_any V6.drew h (by omega)
    have hins := insert_any B O' V6.drew g bst _ ((eat_bst HE6.out HXS.out).2.2.1.ext (extd _)) (3 * h + 2) Ni HSI.out (by omega) t
    rw [List.set_set] at hins
    have HINS := hid_of hins
    clear hins hcont hfull
    go_upto_region 11 with fail
    refine wp_region_held_drew (S := fun W' => blk W' be = some X ∧ blk W' bn = some Cn) (by kernel_rfl) ⟨hcell6, hCn6⟩ (fun hHeld => ?_)
    refine wpAnyH_take (i := 0) (oi := ⟨_, _, _, _, _, _⟩) (v := ?_) rfl (by kernel_rfl) (by kernel_rfl) (by kernel_rfl) (fun _ _ _ h => h) (Or.inl ⟨by rfl, ?_⟩) (by assumption) ?_
    rotate_left 1
    · intro W' hSw
      obtain ⟨hS1, hS2⟩ := hSw
      go_simp
      try with_reducible rfl
    try simp only [Act.put, List.setIfInBounds_toArray, List.set_cons_zero, List.set_cons_succ]
    refine wpAnyH_take (i := 1) (oi := ⟨_, _, _, _, _, _⟩) (v := ?_) rfl (by kernel_rfl) (by kernel_rfl) (by kernel_rfl) (fun _ _ _ h => h) (Or.inl ⟨by rfl, ?_⟩) (by assumption) ?_
    rotate_left 1
    · intro W' hSw
      obtain ⟨hS1, hS2⟩ := hSw
      go_simp
      try with_reducible rfl
    try simp only [Act.put, List.setIfInBounds_toArray, List.set_cons_zero, List.set_cons_succ]
    refine wpAnyH_take (i := 2) (oi := ⟨_, _, _, _, _, _⟩) (v := ?_) rfl (by kernel_rfl) (by kernel_rfl) (by kernel_rfl) (fun _ _ _ h => h) (Or.inl ⟨by rfl, ?_⟩) (by assumption) ?_
    rotate_left 1
    · intro W' hSw
      obtain ⟨hS1, hS2⟩ := hSw
      go_simp
      try with_reducible rfl
    try simp only [Act.put, List.setIfInBounds_toArray, List.set_cons_zero, List.set_cons_succ]
    refine wpAnyH_take (i := 3) (oi := ⟨_, _, _, _, _, _⟩) (v := ?_) rfl (by kernel_rfl) (by kernel_rfl) (by kernel_rfl) (fun _ _ _ h => h) (Or.inl ⟨by rfl, ?_⟩) (by assumption) ?_
    rotate_left 1
    · intro W' hSw
      obtain ⟨hS1, hS2⟩ := hSw
      go_simp
      try with_reducible rfl
    try simp only [Act.put, List.setIfInBounds_toArray, List.set_cons_zero, List.set_cons_succ]
    refine wpAnyH_take (i := 4) (oi := ⟨_, _, _, _, _, _⟩) (v := ?_) rfl (by kernel_rfl) (by kernel_rfl) (by kernel_rfl) (fun _ _ _ h => h) (Or.inl ⟨by rfl, ?_⟩) (by assumption) ?_
    rotate_left 1
    · intro W' hSw
      obtain ⟨hS1, hS2⟩ := hSw
      go_simp
      try with_reducible rfl
    try simp only [Act.put, List.setIfInBounds_toArray, List.set_cons_zero, List.set_cons_succ]
    refine wpAnyH_take (i := 6) (oi := ⟨_, _, _, _, _, _⟩) (v := ?_) rfl (by kernel_rfl) (by kernel_rfl) (by kernel_rfl) (fun _ _ _ h => h) (Or.inl ⟨by rfl, ?_⟩) (by assumption) ?_
    rotate_left 1
    · intro W' hSw
      obtain ⟨hS1, hS2⟩ := hSw
      go_simp
      try with_reducible rfl
    try simp only [Act.put, List.setIfInBounds_toArray, List.set_cons_zero, List.set_cons_succ]
    refine wpAnyH_take (i := 7) (oi := ⟨_, _, _, _, _, _⟩) (v := ?_) rfl (by kernel_rfl) (by kernel_rfl) (by kernel_rfl) (fun _ _ _ h => h) (Or.inl ⟨by rfl, ?_⟩) (by assumption) ?_
    rotate_left 1
    · intro W' hSw
      obtain ⟨hS1, hS2⟩ := hSw
      go_simp
      try with_reducible rfl
    try simp only [Act.put, List.setIfInBounds_toArray, List.set_cons_zero, List.set_cons_succ]
    refine wpAnyH_take (i := 8) (oi := ⟨_, _, _, _, _, _⟩) (v := ?_) rfl (by kernel_rfl) (by kernel_rfl) (by kernel_rfl) (fun _ _ _ h => h) (Or.inl ⟨by rfl, ?_⟩) (by assumption) ?_
    rotate_left 1
    · intro W' hSw
      obtain ⟨hS1, hS2⟩ := hSw
      go_simp
      try with_reducible rfl
    try simp only [Act.put, List.setIfInBounds_toArray, List.set_cons_zero, List.set_cons_succ]
    refine wpAnyH_take (i := 9) (oi := ⟨_, _, _, _, _, _⟩) (v := ?_) rfl (by kernel_rfl) (by kernel_rfl) (by kernel_rfl) (fun _ _ _ h => h) (Or.inl ⟨by rfl, ?_⟩) (by assumption) ?_
    rotate_left 1
    · intro W' hSw
      obtain ⟨hS1, hS2⟩ := hSw
      go_simp
      try with_reducible rfl
    try simp only [Act.put, List.setIfInBounds_toArray, List.set_cons_zero, List.set_cons_succ]
    refine wpAnyH_ready (rs := [5]) (by kernel_rfl) (by simp) ?_
    refine AllReadyH.cons (o := ⟨_, _, _, _, _, _⟩) rfl (fun K' hK => ?_) AllReadyH.nil
    go_simp
    refine hnext.mono ?_
    rintro en V5 ⟨rfl, rfl⟩
    dsimp only
    refine hK.out _ _ ⟨hcell6, hCn6⟩ (fun hHeld => ?_)
    clear hK K'
    try simp only [Act.put, List.setIfInBounds_toArray, List.set_cons_zero, List.set_cons_succ]
    refine wpAnyH_ready (rs := [10]) (by kernel_rfl) (by simp) ?_
    refine AllReadyH.cons (o := ⟨_, _, _, _, _, _⟩) rfl (fun K' hK => ?_) AllReadyH.nil
    go_simp
    refine HINS.out.mono ?_
    rintro en V7 ⟨rfl, hso⟩
    dsimp only
    obtain ⟨O7, hf7, hs7⟩ := hso
    have HE7 : Hid (EAt B O7 V7 g be p xi (S.set (3 * h + 2) (insL Ni t)) sav) := by
      have h7 := (eat_bst (HE6.out.ext (extd V6)) HXS.out).2.2.2.2 _ O7 V7 hf7 hs7
      exact h7
    have hff7 : Fr (isE g) O' V6 O7 V7 := (Fr.of_extends (extd V6)).trans (hf7.mono (fun l h => .inl h))
    have HF7 : Hid (Fr (isE g) O1 W1 O7 V7) := HF6.out.trans hff7
    have HR7 : Hid (Rw tpl 4 (core O7 V7) (some ⟨bn, 0, none⟩) out.length out) := HR6.out.grow (core_fr hff7 (isE_no g))
    have hcell7 : blk V7 be = some X := by rw [HX.out]; exact (eat_bst HE7.out HXS.out).1
    have hfre7 : free V7 be = true := (eat_bst HE7.out HXS.out).2.1
    have hCn7 : blk V7 bn = some Cn := by
      obtain ⟨b', C', e1, e2, _⟩ := tup_at HR6.out HTI.out
      injection e1 with e1
      injection e1 with e1
      subst e1
      have e3 := (core_blk e2).1
      rw [hCn6] at e3
      injection e3 with e3
      subst e3
      have := core_fr hff7 (isE_no g)
      exact (core_blk ((this.blk (blk_lt e2)).trans e2)).1
    clear hf7 hs7 hff7
    refine hK.out _ _ ⟨hcell7, hCn7⟩ (fun hHeld => ?_)
    clear hK K'
    try simp only [Act.put, List.setIfInBounds_toArray, List.set_cons_zero, List.set_cons_succ]
    refine wpAnyH_take (i := 11) (oi := ⟨_, _, _, _, _, _⟩) (v := ?_) rfl (by kernel_rfl) (by kernel_rfl) (by kernel_rfl) (fun _ _ _ h => h) (Or.inl ⟨by rfl, ?_⟩) (by assumption) ?_
    rotate_left 1
    · intro W' hSw
      obtain ⟨hS1, hS2⟩ := hSw
      go_simp
      try with_reducible rfl
    try simp only [Act.put, List.setIfInBounds_toArray, List.set_cons_zero, List.set_cons_succ]
    refine wpAnyH_done (by kernel_rfl) ?_ _
    clear hHeld HINS hnext hcell6 hfre6 hCn6 HE6 HF6 HR6
    by_cases htN : t ∈ Ni
    · have hcd : insC Ni t = 1 := if_pos htN
      rw [hcd]
      have HI' : Hid (F.length + (newL F N (out.take (i + 1))).length ≤ 512 ∧ ∃ O', Fr (isE g) O1 W1 O' V7 ∧ EAt B O' V7 g be p (xF x out (frN x.stats.fresh ((newL F N (out.take (i + 1))).length - N.length))) (S.set (3 * h + 2) (newL F N (out.take (i + 1)))) sav ∧ Rw tpl 4 (core O' V7) (some ⟨bn, 0, none⟩) out.length out) := by
        have e1 : addT Ni t = Ni := if_pos htN
        have e2 : insL Ni t = Ni := if_pos htN
        rw [HTK'.out, newL_snoc, if_neg htF, ← HNI.out, e1]
        have h7 := HE7.out
        rw [e2] at h7
        exact ⟨hsum, O7, HF7.out, by rw [← HXI.out]; exact h7, HR7.out⟩
      clear HE7 HF7 HR7
      go_wp2_with fail
      refine ⟨rfl, rfl, ⟨rfl, rfl, rfl, rfl, i + 1, by omega, ?_, HI'⟩, ?_⟩
      · show Value.int .i64 _ = _
        go_num
      · show out.length - (intOf (Value.int .i64 _)).toNat < out.length - (intOf (f 9)).toNat
        rw [H9.out]
        simp [intOf]; omega
    have hsnoc : newL F N (out.take (i + 1)) = Ni ++ [t] := by
      rw [HTK'.out, newL_snoc, if_neg htF, ← HNI.out]; exact if_neg htN
    have HSNOC := hid_of hsnoc
    have hbig : (Ni ++ [t]).length ≤ (newL F N out).length := by
      rw [← hsnoc]; exact newL_take F N out (i + 1)
    rw [List.length_append, List.length_singleton] at hbig
    clear hsnoc
    by_cases hful : Ni.length = 512
    · have hcd : insC Ni t = 3 := by unfold insC; rw [if_neg htN, if_pos hful]
      rw [hcd]
      have HP : Hid (Q (.returned (.int .i64 3)) V7) := by
        show Q _ _
        rw [HQ.out]
        refine ⟨insL Ni t, 3, _, rfl, HF1.out _ _ _ ⟨O7, HF7.out, by have := HE7.out; rw [HXI.out] at this; exact this⟩, .inr ⟨rfl, ?_⟩⟩
        rw [← HF.out, ← HN.out]
        omega
      clear HE7 HF7 HR7
      go_wp2_with fail
      try go_ret
      exact HP.out
    have hcd : insC Ni t = 0 := by unfold insC; rw [if_neg htN, if_neg hful]
    have hnl : insL Ni t = Ni ++ [t] := by unfold insL; rw [if_neg htN, if_neg hful]
    rw [hcd]
    rw [hnl] at HE7
    clear hcd hnl
    go_upto_region 16 with fail
    obtain ⟨xj, hxj⟩ : ∃ xj : Engine, xj = xF x out (wrap64 (xi.stats.fresh + 1)) := ⟨_, rfl⟩
    have hs : splice X 12 [.int .i64 (wrap64 (xi.stats.fresh + 1))] = xj.enc := by rw [hxj, HX.out, Engine.stats_fresh_set, HXI.out]; rfl
    refine wp_world (fun V => blk V be = some xj.enc ∧ V = put V7 be xj.enc) ⟨?_, ?_⟩ ?_
    · rw [hs, blk_put, if_pos rfl, hcell7]; rfl
    · rw [hs]
    rintro V8 ⟨hcell8, hV8⟩
    obtain ⟨hE8, hfr8⟩ := HE7.out.cells xj (by rw [hxj, HXI.out]; rfl) (by rw [hxj, HXI.out]; rfl) (by rw [hxj, HXI.out]; rfl) (by rw [hxj, HXI.out]; rfl)
    rw [← hV8] at hE8 hfr8
    have HE8 := hid_of hE8
    have HF8 : Hid (Fr (isE g) O1 W1 O7 V8) := HF7.out.trans hfr8
    have HR8 : Hid (Rw tpl 4 (core O7 V8) (some ⟨bn, 0, none⟩) out.length out) := HR7.out.grow (core_fr hfr8 (isE_no g))
    have hxst8 : xj.st = some ⟨bst, 0, none⟩ := by rw [hxj]; exact HXST.out
    have hlS := HLN.out
    have hlen8 := len_any B O7 V8.drew g bst _ ((eat_bst hE8 hxst8).2.2.1.ext (extd _)) (3 * h + 2) (Ni ++ [t]) (by rw [List.getElem?_set_self (by omega)])
    rw [List.length_append, List.length_singleton] at hlen8
    have hnext8 := next_any V8.drew h (by omega)
    obtain ⟨X8, hX8⟩ : ∃ X8, X8 = xj.enc := ⟨_, rfl⟩
    rw [← hX8] at hcell8
    obtain ⟨yl, _, _, _, y3, _, _, _, _, _, _, _, _, y12⟩ := eng_cells hX8
    rw [hxst8] at y3
    have hfq : frN x.stats.fresh ((Ni ++ [t]).length - N.length) = wrap64 (xi.stats.fresh + 1) := by
      rw [List.length_append, List.length_singleton, show Ni.length + 1 - N.length = (Ni.length - N.length) + 1 by omega, HXI.out]; rfl
    have HFQ := hid_of hfq
    have HXJ := hid_of hxj
    clear hs hV8 hE8 hfr8 hxst8 hX8 HE7 HF7 HR7 hcell7 hfre7 xl x3 x12 y12 hlS hxj hfq
    refine wp_region_held_drew (S := fun W' => blk W' be = some X8) (by kernel_rfl) hcell8 (fun hHeld => ?_)
    refine wpAnyH_take (i := 0) (oi := ⟨_, _, _, _, _, _⟩) (v := ?_) rfl (by kernel_rfl) (by kernel_rfl) (by kernel_rfl) (fun _ _ _ h => h) (Or.inl ⟨by rfl, ?_⟩) (by assumption) ?_
    rotate_left 1
    · intro W' hSw
      go_simp
      try with_reducible rfl
    try simp only [Act.put, List.setIfInBounds_toArray, List.set_cons_zero, List.set_cons_succ]
    refine wpAnyH_take (i := 1) (oi := ⟨_, _, _, _, _, _⟩) (v := ?_) rfl (by kernel_rfl) (by kernel_rfl) (by kernel_rfl) (fun _ _ _ h => h) (Or.inl ⟨by rfl, ?_⟩) (by assumption) ?_
    rotate_left 1
    · intro W' hSw
      go_simp
      try with_reducible rfl
    try simp only [Act.put, List.setIfInBounds_toArray, List.set_cons_zero, List.set_cons_succ]
    refine wpAnyH_take (i := 2) (oi := ⟨_, _, _, _, _, _⟩) (v := ?_) rfl (by kernel_rfl) (by kernel_rfl) (by kernel_rfl) (fun _ _ _ h => h) (Or.inl ⟨by rfl, ?_⟩) (by assumption) ?_
    rotate_left 1
    · intro W' hSw
      go_simp
      try with_reducible rfl
    try simp only [Act.put, List.setIfInBounds_toArray, List.set_cons_zero, List.set_cons_succ]
    refine wpAnyH_take (i := 3) (oi := ⟨_, _, _, _, _, _⟩) (v := ?_) rfl (by kernel_rfl) (by kernel_rfl) (by kernel_rfl) (fun _ _ _ h => h) (Or.inl ⟨by rfl, ?_⟩) (by assumption) ?_
    rotate_left 1
    · intro W' hSw
      go_simp
      try with_reducible rfl
    try simp only [Act.put, List.setIfInBounds_toArray, List.set_cons_zero, List.set_cons_succ]
    refine wpAnyH_take (i := 4) (oi := ⟨_, _, _, _, _, _⟩) (v := ?_) rfl (by kernel_rfl) (by kernel_rfl) (by kernel_rfl) (fun _ _ _ h => h) (Or.inl ⟨by rfl, ?_⟩) (by assumption) ?_
    rotate_left 1
    · intro W' hSw
      go_simp
      try with_reducible rfl
    try simp only [Act.put, List.setIfInBounds_toArray, List.set_cons_zero, List.set_cons_succ]
    refine wpAnyH_ready (rs := [5]) (by kernel_rfl) (by simp) ?_
    refine AllReadyH.cons (o := ⟨_, _, _, _, _, _⟩) rfl (fun K' hK => ?_) AllReadyH.nil
    go_simp
    refine hnext8.mono ?_
    rintro en V5 ⟨rfl, rfl⟩
    dsimp only
    refine hK.out _ _ hcell8 (fun hHeld => ?_)
    clear hK K'
    try simp only [Act.put, List.setIfInBounds_toArray, List.set_cons_zero, List.set_cons_succ]
    refine wpAnyH_ready (rs := [6]) (by kernel_rfl) (by simp) ?_
    refine AllReadyH.cons (o := ⟨_, _, _, _, _, _⟩) rfl (fun K' hK => ?_) AllReadyH.nil
    go_simp
    refine hlen8.mono ?_
    rintro en V5 ⟨rfl, rfl⟩
    dsimp only
    refine hK.out _ _ hcell8 (fun hHeld => ?_)
    clear hK K'
    try simp only [Act.put, List.setIfInBounds_toArray, List.set_cons_zero, List.set_cons_succ]
    refine wpAnyH_take (i := 7) (oi := ⟨_, _, _, _, _, _⟩) (v := ?_) rfl (by kernel_rfl) (by kernel_rfl) (by kernel_rfl) (fun _ _ _ h => h) (Or.inl ⟨by rfl, ?_⟩) (by assumption) ?_
    rotate_left 1
    · intro W' hSw
      go_simp
      try with_reducible rfl
    try simp only [Act.put, List.setIfInBounds_toArray, List.set_cons_zero, List.set_cons_succ]
    refine wpAnyH_take (i := 8) (oi := ⟨_, _, _, _, _, _⟩) (v := ?_) rfl (by kernel_rfl) (by kernel_rfl) (by kernel_rfl) (fun _ _ _ h => h) (Or.inl ⟨by rfl, ?_⟩) (by assumption) ?_
    rotate_left 1
    · intro W' hSw
      go_simp
      try with_reducible rfl
    try simp only [Act.put, List.setIfInBounds_toArray, List.set_cons_zero, List.set_cons_succ]
    refine wpAnyH_take (i := 9) (oi := ⟨_, _, _, _, _, _⟩) (v := ?_) rfl (by kernel_rfl) (by kernel_rfl) (by kernel_rfl) (fun _ _ _ h => h) (Or.inl ⟨by rfl, ?_⟩) (by assumption) ?_
    rotate_left 1
    · intro W' hSw
      go_simp
      try with_reducible rfl
    try simp only [Act.put, List.setIfInBounds_toArray, List.set_cons_zero, List.set_cons_succ]
    refine wpAnyH_take (i := 10) (oi := ⟨_, _, _, _, _, _⟩) (v := ?_) rfl (by kernel_rfl) (by kernel_rfl) (by kernel_rfl) (fun _ _ _ h => h) (Or.inl ⟨by rfl, ?_⟩) (by assumption) ?_
    rotate_left 1
    · intro W' hSw
      go_simp
      try with_reducible rfl
    try simp only [Act.put, List.setIfInBounds_toArray, List.set_cons_zero, List.set_cons_succ]
    refine wpAnyH_take (i := 11) (oi := ⟨_, _, _, _, _, _⟩) (v := ?_) rfl (by kernel_rfl) (by kernel_rfl) (by kernel_rfl) (fun _ _ _ h => h) (Or.inl ⟨by rfl, ?_⟩) (by assumption) ?_
    rotate_left 1
    · intro W' hSw
      go_simp
      try with_reducible rfl
    try simp only [Act.put, List.setIfInBounds_toArray, List.set_cons_zero, List.set_cons_succ]
    refine wpAnyH_done (by kernel_rfl) ?_ _
    by_cases hov : F.length + (Ni.length + 1) ≤ 512
    · have hov' : ¬ ((512 : Int) < (F.length : Int) + ((Ni.length + 1 : Nat) : Int)) := by omega
      have HI' : Hid (F.length + (newL F N (out.take (i + 1))).length ≤ 512 ∧ ∃ O', Fr (isE g) O1 W1 O' V8.drew ∧ EAt B O' V8.drew g be p (xF x out (frN x.stats.fresh ((newL F N (out.take (i + 1))).length - N.length))) (S.set (3 * h + 2) (newL F N (out.take (i + 1)))) sav ∧ Rw tpl 4 (core O' V8.drew) (some ⟨bn, 0, none⟩) out.length out) := by
        rw [HSNOC.out]
        refine ⟨by rw [List.length_append, List.length_singleton]; exact hov, O7, HF8.out.drew, ?_, HR8.out.grow (core_ext (extd _))⟩
        rw [HFQ.out, ← HXJ.out]
        exact HE8.out.ext (extd _)
      clear HE8 HF8 HR8 hHeld hlen8 hnext8
      go_wp2_with fail
      refine ⟨rfl, rfl, ⟨rfl, rfl, rfl, rfl, i + 1, by omega, ?_, HI'⟩, ?_⟩
      · show Value.int .i64 _ = _
        go_num
      · show out.length - (intOf (Value.int .i64 _)).toNat < out.length - (intOf (f 9)).toNat
        rw [H9.out]
        simp [intOf]; omega
    · have hov' : (512 : Int) < (F.length : Int) + ((Ni.length + 1 : Nat) : Int) := by omega
      have HP : Hid (Q (.returned (.int .i64 3)) V8.drew) := by
        show Q _ _
        rw [HQ.out]
        refine ⟨Ni ++ [t], 3, _, rfl, HF1.out _ _ _ ⟨O7, HF8.out.drew, by have := HE8.out.ext (extd V8); rw [HXJ.out] at this; exact this⟩, .inr ⟨rfl, ?_⟩⟩
        rw [← HF.out, ← HN.out]
        omega
      clear HE8 HF8 HR8 hHeld hlen8 hnext8
      go_wp2_with fail
      try go_ret
      exact HP.out
  · obtain rfl : i = out.length := by omega
    have hin' : ¬ ((out.length : Int) < (out.length : Int)) := by omega
    have HP : Hid (Q (.returned (.int .i64 0)) V) := by
      show Q _ _
      rw [HQ.out]
      rw [List.take_of_length_le (Nat.le_refl _)] at hNi
      rw [hxi] at hEA
      refine ⟨Ni, 0, _, rfl, HF1.out _ _ _ ⟨O', hFr, hEA⟩, .inl ⟨rfl, ?_, ?_, ?_⟩⟩
      · rw [← HF.out, ← HN.out]; exact hNi
      · rw [← HF.out]; exact hsum
      · rw [← HN.out]
    clear HI hNi hxi hEA hFr hRw
    go_wp2_with fail
    try go_ret
    exact HP.out
end Go.Proofs.Qxb6500788a
