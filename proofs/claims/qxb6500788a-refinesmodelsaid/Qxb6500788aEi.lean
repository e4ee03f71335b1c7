import Derived.Test.Qxb6500788aPb
import Derived.StillTailTactics
import Derived.Deep.QuietTactic
import Derived.BigQuiet
import Derived.Deep.RegionHeld
import Derived.Deep.CutRange
import Derived.Laws.ResultCell
import Derived.Laws.Rows
import Derived.DeepKeys
import Derived.DataBytes
import Derived.Laws.StructEq
import Derived.Laws.AppendOwn
import Derived.Laws.MakeOwn
set_option linter.unusedSimpArgs false
set_option linter.unusedVariables false
namespace Go.Proofs.Qxb6500788a
open Go.RowKit Go.Blk
attribute [local go_sem ↓] execOp_load execOp_store execOp_alloc
attribute [local go_sem] Try.ld24 Try.st24 Try.ld25 Try.st25 Try.ld3 Try.st3 Try.ld30 Try.st30 Try.ld36 Try.st36 Try.ld4 Try.st4 Try.ld41 Try.st41 Try.ld50 Try.st50 Try.ld40 Try.st40 Try.ld42 Try.st42 Try.ld89 Try.st89 Try.ld91 Try.st91 Try.ld56 Try.st56 Try.ld97 Try.st97 Try.ld98 Try.st98 Try.ld101 Try.st101 Try.ld104 Try.st104 Try.ld57 Try.st57 Try.ld130 Try.st130 Try.ld2 Try.st2 Try.ld5 Try.st5 Try.ld9 Try.st9 Try.ld12 Try.st12 Try.ld21 Try.st21 Try.ld22 Try.st22 Try.ld29 Try.st29 Try.ld33 Try.st33 Try.ld59 Try.st59 Try.ld62 Try.st62 Try.ld69 Try.st69 Try.ld94 Try.st94 Try.ld96 Try.st96 Try.ld129 Try.st129 Try.ld158 Try.st158 Try.ld162 Try.st162 Try.ld47 Try.st47 Try.ld44 Try.st44 Try.ld137 Try.st137 Try.ld145 Try.st145 Try.ld43 Try.st43 Try.ld27 Try.st27 Try.ld38 Try.st38 Try.ld46 Try.st46 Try.ld49 Try.st49 Try.ld52 Try.st52 Try.ld54 Try.st54 Try.ld61 Try.st61 Try.ld80 Try.st80 Try.ld87 Try.st87 Try.ld93 Try.st93 Try.ld100 Try.st100 Try.ld103 Try.st103 Try.ld106 Try.st106 Try.ld109 Try.st109 Try.ld132 Try.st132 Try.ld147 Try.st147 Try.al47 Try.al44 Try.al137 Try.al145 Try.al43 Try.al27 Try.al38 Try.al46 Try.al49 Try.al52 Try.al54 Try.al61 Try.al80 Try.al87 Try.al93 Try.al100 Try.al103 Try.al106 Try.al109 Try.al132 Try.al147
attribute [local go_sem] GProgram.length_enc GProgram.ok_enc GProgram.all_get GProgram.all_set GProgram.preds_get GProgram.preds_set GProgram.rules_get GProgram.rules_set GProgram.strata_get GProgram.strata_set Answer.length_enc Answer.ok_enc Answer.all_get Answer.all_set Answer.code_get Answer.code_set Answer.n_get Answer.n_set Answer.rows_get Answer.rows_set Term.length_enc Term.ok_enc Term.all_get Term.all_set Term.var_get Term.var_set Term.n_get Term.n_set Atom.length_enc Atom.ok_enc Atom.all_get Atom.all_set Atom.pred_get Atom.pred_set Atom.args_get Atom.args_set GRule.length_enc GRule.ok_enc GRule.all_get GRule.all_set GRule.head_get GRule.head_set GRule.body_get GRule.body_set GRule.head_pred_get GRule.head_pred_set GRule.head_args_get GRule.head_args_set GOp.length_enc GOp.ok_enc GOp.all_get GOp.all_set GOp.kind_get GOp.kind_set GOp.pred_get GOp.pred_set GOp.t_get GOp.t_set GOp.n_get GOp.n_set GOp.base_get GOp.base_set GOp.rule_get GOp.rule_set GOp.rule_head_get GOp.rule_head_set GOp.rule_body_get GOp.rule_body_set GOp.rule_head_pred_get GOp.rule_head_pred_set GOp.rule_head_args_get GOp.rule_head_args_set PredInfo.length_enc PredInfo.ok_enc PredInfo.all_get PredInfo.all_set PredInfo.arity_get PredInfo.arity_set PredInfo.base_get PredInfo.base_set PredInfo.stratum_get PredInfo.stratum_set GStats.length_enc GStats.ok_enc GStats.all_get GStats.all_set GStats.rounds_get GStats.rounds_set GStats.fired_get GStats.fired_set GStats.emitted_get GStats.emitted_set GStats.fresh_get GStats.fresh_set Literal.length_enc Literal.ok_enc Literal.all_get Literal.all_set Literal.neg_get Literal.neg_set Literal.atom_get Literal.atom_set Literal.atom_pred_get Literal.atom_pred_set Literal.atom_args_get Literal.atom_args_set Engine.length_enc Engine.ok_enc Engine.all_get Engine.all_set Engine.prog_get Engine.prog_set Engine.st_get Engine.st_set Engine.levels_get Engine.levels_set Engine.running_get Engine.running_set Engine.stratum_get Engine.stratum_set Engine.round_get Engine.round_set Engine.saved_get Engine.saved_set Engine.stats_get Engine.stats_set Engine.prog_preds_get Engine.prog_preds_set Engine.prog_rules_get Engine.prog_rules_set Engine.prog_strata_get Engine.prog_strata_set Engine.stats_rounds_get Engine.stats_rounds_set Engine.stats_fired_get Engine.stats_fired_set Engine.stats_emitted_get Engine.stats_emitted_set Engine.stats_fresh_get Engine.stats_fresh_set Level.length_enc Level.ok_enc Level.all_get Level.all_set Level.heads_get Level.heads_set Level.jobs_get Level.jobs_set Plan.length_enc Plan.ok_enc Plan.all_get Plan.all_set Plan.rule_get Plan.rule_set Plan.delta_get Plan.delta_set Plan.src_get Plan.src_set Job.length_enc Job.ok_enc Job.all_get Job.all_set Job.full_get Job.full_set Job.deltas_get Job.deltas_set Job.full_rule_get Job.full_rule_set Job.full_delta_get Job.full_delta_set Job.full_src_get Job.full_src_set GState.length_enc GState.ok_enc GState.all_get GState.all_set GState.prog_get GState.prog_set GState.base_get GState.base_set GState.shown_get GState.shown_set GState.prog_preds_get GState.prog_preds_set GState.prog_rules_get GState.prog_rules_set GState.prog_strata_get GState.prog_strata_set Store.length_enc Store.ok_enc Store.all_get Store.all_set Store.arity_get Store.arity_set Store.rows_get Store.rows_set Env.length_enc Env.ok_enc Env.all_get Env.all_set Env.val_get Env.val_set Env.set_get Env.set_set
attribute [local go_sem] size_put size_ext blk_put free_put blk_alloc free_alloc blk_drew free_drew blk_ext free_ext lookOr_some putOr_some segAt_some cellAt_some storeIn_some put_put put_alloc_new length_arr ok_arr_u8 ok_arr_u32 ok_arr_u64 ok_arr_i64 ok_arr_sl cellsV_agg cellsV_int cellsV_bool cellsV_string cellsV_pointer cellsV_slice cellsV_sl ok_int ok_bool ok_string ok_pointer ok_slice ok_sl toList_arr seg_arr set_arr nth_splice nth_splice0 seg_splice seg_splice0 splice_splice splice_splice0 length_splice_if
attribute [local go_sem ↓] execOp_box
attribute [local go_sem] box_run nth_arr_u8 put_arr_u8 blk_drewN free_drewN put_drewN blk_raw free_raw
def xQ (x : Engine) (q : GStats) : Engine := { x with stats := q }
def qR (q : GStats) : GStats := { q with rounds := wrap64 (q.rounds + 1) }
def RoundPost (B : Nat) (O : Own) (W : World) (g be : Nat) (p : Pg) (x : Engine) (S sav : List (List Tup)) (s rn : Nat) (e : Ending) (W' : World) : Prop :=
  match jobsO p s rn (S, x.stats) with
  | none => e = .returned (.tuple #[.int .i64 0, .int .i64 3]) ∧ ∃ S'' q sav', BaseEq p S S'' ∧ EOut B O W g be p { x with running := false, stratum := 0, stats := q } (resS p S'' sav p.P.length) sav' W'
  | some σ => if anyN σ.1 (headsOf p s) then e = .returned (.tuple #[.int .i64 1, .int .i64 0]) ∧ EOut B O W g be p { x with round := ((rn + 1 : Nat) : Int), stats := qR σ.2 } (promL σ.1 (headsOf p s)) sav W'
    else if s + 1 < p.St then e = .returned (.tuple #[.int .i64 2, .int .i64 0]) ∧ EOut B O W g be p { x with stratum := ((s + 1 : Nat) : Int), round := 0, stats := qR σ.2 } (promL σ.1 (headsOf p s)) sav W'
    else e = .returned (.tuple #[.int .i64 3, .int .i64 0]) ∧ ∃ sav', EOut B O W g be p { x with running := false, stratum := 0, round := 0, stats := qR σ.2 } (promL σ.1 (headsOf p s)) sav' W'
def JobI (B : Nat) (O : Own) (W : World) (g be : Nat) (p : Pg) (x : Engine) (S sav : List (List Tup)) (s rn : Nat) (i : Nat) (c : Int) (V : World) : Prop := ∃ O', Fr (isE g) O W O' V ∧ ∃ σ : StQ, EAt B O' V g be p (xQ x σ.2) σ.1 sav ∧ ((c = 0 ∧ foldO (jobO p s rn) ((jobsOf p s).take i) (S, x.stats) = some σ) ∨ (c = 3 ∧ jobsO p s rn (S, x.stats) = none ∧ BaseEq p S σ.1))
def DelI (B : Nat) (O : Own) (W : World) (g be : Nat) (p : Pg) (x : Engine) (S sav : List (List Tup)) (s rn k : Nat) (σ0 : StQ) (j : Nat) (c : Int) (V : World) : Prop := ∃ O', Fr (isE g) O W O' V ∧ ∃ σ : StQ, EAt B O' V g be p (xQ x σ.2) σ.1 sav ∧ ((c = 0 ∧ foldO (fun σ d => fireDO p k d σ) ((delOf p s k).take j) σ0 = some σ) ∨ (c = 3 ∧ jobsO p s rn (S, x.stats) = none ∧ BaseEq p S σ.1))
def ro1I (B : Nat) (O : Own) (W : World) (g be : Nat) (p : Pg) (x : Engine) (S sav : List (List Tup)) (s rn bl o : Nat) (f : Nat → Value) (V : World) : Prop := f 0 = .pointer (some ⟨be, 0, none⟩) ∧ f 4 = .pointer (some ⟨bl, o, none⟩) ∧ ∃ (i : Nat) (c : Int), i ≤ (jobsOf p s).length ∧ f 6 = .int .i64 (i : Int) ∧ f 5 = .int .i64 c ∧ Hid (JobI B O W g be p x S sav s rn i c V)
def ro2I (B : Nat) (O : Own) (W : World) (g be : Nat) (p : Pg) (x : Engine) (S sav : List (List Tup)) (s rn bl o i k : Nat) (σ0 : StQ) (f : Nat → Value) (V : World) : Prop := f 0 = .pointer (some ⟨be, 0, none⟩) ∧ f 4 = .pointer (some ⟨bl, o, none⟩) ∧ f 6 = .int .i64 (i : Int) ∧ ∃ (j : Nat) (c : Int), j ≤ (delOf p s k).length ∧ f 7 = .int .i64 (j : Int) ∧ f 5 = .int .i64 c ∧ Hid (DelI B O W g be p x S sav s rn k σ0 j c V)
theorem PlanC.enc {W : World} {y : Plan} {p : Pg} {k : Nat} {d : Int} (h : PlanC W y p k d) : y.enc = plE (k : Int) d y.src.a y.src.len y.src.cap := by
  show Plan.enc y = Plan.enc ⟨k, d, ⟨y.src.a, y.src.len, y.src.cap⟩⟩
  rw [← h.1, ← h.2.1]
theorem del_lit {p : Pg} {s k d : Nat} (h : d ∈ delOf p s k) : ∃ l, (p.L k)[d]? = some l ∧ l.neg = false ∧ litP p k d = l.atom.pred.toNat := by
  unfold delOf at h
  have hd := List.mem_range.1 (List.mem_filter.1 h).1
  have h2 := (List.mem_filter.1 h).2
  have hl := List.getElem?_eq_getElem hd
  rw [hl] at h2
  refine ⟨_, hl, ?_, by unfold litP; rw [hl]⟩
  simp only [Bool.and_eq_true, Bool.not_eq_true'] at h2
  exact h2.1.1
/-- What fire leaves, told by the plain function. -/
theorem fire_step {B : Nat} {g be : Nat} {p : Pg} {x : Engine} {sav : List (List Tup)} {s : Nat} (hok : PgOk p) {k : Nat} (hk : k ∈ jobsOf p s) {d : Int} {V : World} {O1 : Own} {σ : StQ} {e : Ending} {W' : World} (h : FirePost B O1 V g be p (xQ x σ.2) σ.1 sav (hP p k) (outP p σ.1 k d) e W') :
    ∃ c : Int, e = .returned (.int .i64 c) ∧ ((c = 0 ∧ ∃ σ', fireO p k d σ = some σ' ∧ EOut B O1 V g be p (xQ x σ'.2) σ'.1 sav W') ∨ (c = 3 ∧ fireO p k d σ = none ∧ ∃ σ' : StQ, BaseEq p σ.1 σ'.1 ∧ EOut B O1 V g be p (xQ x σ'.2) σ'.1 sav W')) := by
  obtain ⟨N', c, q, h1, h2, h3⟩ := h
  refine ⟨c, h1, ?_⟩
  rcases h3 with ⟨a1, a2, a3, a4⟩ | ⟨a1, a2⟩
  · refine .inl ⟨a1, (σ.1.set (3 * hP p k + 2) N', (xF (xQ x σ.2) (outP p σ.1 k d) q).stats), ?_, h2⟩
    unfold fireO newN
    rw [← a2, if_pos a3, a4]
    rfl
  · refine .inr ⟨a1, ?_, (σ.1.set (3 * hP p k + 2) N', (xF (xQ x σ.2) (outP p σ.1 k d) q).stats), BaseEq.next hok hk _ _, h2⟩
    unfold fireO newN
    rw [if_neg (by omega)]
theorem fireD_step {B : Nat} {g be : Nat} {p : Pg} {x : Engine} {sav : List (List Tup)} {s : Nat} (hok : PgOk p) {k : Nat} (hk : k ∈ jobsOf p s) {d : Nat} {V : World} {O1 : Own} {σ : StQ} {e : Ending} {W' : World} (h : if rowsAt σ.1 (3 * litP p k d + 1) = [] then e = .returned (.int .i64 0) ∧ EOut B O1 V g be p (xQ x σ.2) σ.1 sav W' else FirePost B O1 V g be p (xQ x σ.2) σ.1 sav (hP p k) (outP p σ.1 k (d : Int)) e W') :
    ∃ c : Int, e = .returned (.int .i64 c) ∧ ((c = 0 ∧ ∃ σ', fireDO p k d σ = some σ' ∧ EOut B O1 V g be p (xQ x σ'.2) σ'.1 sav W') ∨ (c = 3 ∧ fireDO p k d σ = none ∧ ∃ σ' : StQ, BaseEq p σ.1 σ'.1 ∧ EOut B O1 V g be p (xQ x σ'.2) σ'.1 sav W')) := by
  unfold fireDO
  by_cases hc : rowsAt σ.1 (3 * litP p k d + 1) = []
  · rw [if_pos hc] at h ⊢
    exact ⟨0, h.1, .inl ⟨rfl, σ, rfl, h.2⟩⟩
  · rw [if_neg hc] at h ⊢
    exact fire_step hok hk h
set_option maxRecDepth 100000 in
theorem frame134 (f : Nat → Value) : frameN 134 f = #[f 0, f 1, f 2, f 3, f 4, f 5, f 6, f 7, f 8, f 9, f 10, f 11, f 12, f 13, f 14, f 15, f 16, f 17, f 18, f 19, f 20, f 21, f 22, f 23, f 24, f 25, f 26, f 27, f 28, f 29, f 30, f 31, f 32, f 33, f 34, f 35, f 36, f 37, f 38, f 39, f 40, f 41, f 42, f 43, f 44, f 45, f 46, f 47, f 48, f 49, f 50, f 51, f 52, f 53, f 54, f 55, f 56, f 57, f 58, f 59, f 60, f 61, f 62, f 63, f 64, f 65, f 66, f 67, f 68, f 69, f 70, f 71, f 72, f 73, f 74, f 75, f 76, f 77, f 78, f 79, f 80, f 81, f 82, f 83, f 84, f 85, f 86, f 87, f 88, f 89, f 90, f 91, f 92, f 93, f 94, f 95, f 96, f 97, f 98, f 99, f 100, f 101, f 102, f 103, f 104, f 105, f 106, f 107, f 108, f 109, f 110, f 111, f 112, f 113, f 114, f 115, f 116, f 117, f 118, f 119, f 120, f 121, f 122, f 123, f 124, f 125, f 126, f 127, f 128, f 129, f 130, f 131, f 132, f 133] := by kernel_rfl
attribute [local go_sem] pl_len pl0 pl1 pl2 pl_all pl_ok
set_option maxRecDepth 40000 in
set_option maxHeartbeats 8000000 in
theorem round_any (B : Nat) (O : Own) (W : World) (g be : Nat) (p : Pg) (x : Engine) (S sav : List (List Tup)) (hE : EAt B O W g be p x S sav) (hok : PgOk p) (hrun : x.running = true) (s rn : Nat) (hs : x.stratum = (s : Int)) (hsS : s < p.St) (hrn : x.round = (rn : Int)) (hrb : rn ≤ 1000000000) (hR : RdOk p s S) (hsv : ∀ i, i < p.P.length → basP p i = false → (rowsAt sav i).Nodup ∧ (rowsAt sav i).length ≤ 512) :
    Calls Try.prog 24 #[.pointer (some ⟨be, 0, none⟩)] W (RoundPost B O W g be p x S sav s rn) := by
  obtain ⟨Q, hQ⟩ : ∃ Q, Q = RoundPost B O W g be p x S sav s rn := ⟨_, rfl⟩
  rw [← hQ]
  have HQ := hid_of hQ
  have h64 := hok.nP
  have h128 := hok.nR
  have h65 := hok.s2
  obtain ⟨bst, hcell, hfre, hxst, -⟩ := eat_st hE
  obtain ⟨V0, hV0, hVl, hVs⟩ := (eat_prg hE).2
  have hll : x.levels.len = p.St := by rw [← hV0.1]; exact hVl
  rw [hll] at hV0
  obtain ⟨y, bl, Cl, hy1, hy2, hy3, hy4, hy5⟩ := hV0.at hsS
  have hlevC := hVs s y hy1
  have hsl : (s + 1) * 2 ≤ p.St * 2 := Nat.mul_le_mul_right _ hsS
  obtain ⟨X, hX⟩ : ∃ X, X = x.enc := ⟨_, rfl⟩
  rw [← hX] at hcell
  obtain ⟨xl, -, -, -, -, x4, x5, x6, -, -, -, -, -, -⟩ := eng_cells hX
  rw [hll, hy2] at x4
  rw [hrun] at x5
  rw [hs] at x6
  have hjn : nth Cl (s * 2 + 1) = some (.slice y.jobs.a y.jobs.len y.jobs.cap) := nth_in (j := 1) hy5 (Level.jobs_get y) (by omega)
  obtain ⟨hh1, J, hJ, hJl, hJs⟩ := hlevC
  have hjl : y.jobs.len = (jobsOf p s).length := by rw [← hJ.1]; exact hJl
  have hj128 : (jobsOf p s).length ≤ 128 := by
    have h1 : (jobsOf p s).length ≤ (List.range p.R.length).length := by unfold jobsOf; exact List.length_filter_le _ _
    rw [List.length_range] at h1; omega
  rw [hjl] at hjn
  have s0 : (0 : Int) ≤ (s : Int) := by omega
  have s1 : (s : Int) < (p.St : Int) := by omega
  have s2 : ((s : Int)).toNat = s := by omega
  have s3 : s * 2 + 1 < Cl.length := by omega
  have HBL := hid_of hy3
  have HY5 := hid_of hy5
  have HLEV : Hid (LevelC (core O W) y p s) := ⟨hh1, J, hJ, hJl, hJs⟩
  have HJ : Hid (Rw Job.enc 4 (core O W) y.jobs.a (jobsOf p s).length J) := by show Rw _ _ _ _ _ _; rw [← hjl]; exact hJ
  have HJS := hid_of hJs
  have HOK := hid_of hok
  have HR := hid_of hR
  have HSV := hid_of hsv
  have HX := hid_of hX
  have HXS := hid_of hxst
  have HE0 := hid_of hE
  have HXR := hid_of hrn
  have HXT := hid_of hs
  have HLL := hid_of hll
  have HI0 : Hid (JobI B O W g be p x S sav s rn 0 0 W.drew) := ⟨O, Fr.of_extends (extd W), (S, x.stats), hE.ext (extd W), .inl ⟨rfl, rfl⟩⟩
  clear hE hQ hok hX hxst hR hsv hV0 hVl hVs hy1 hy2 hy3 hy5 hh1 hJ hJl hJs hll hrun hs hrn hjl V0
  go_enter Try.func24, Try.ntmps24
  go_upto_region 3 with fail
  refine wp_region_held_drew (S := fun W' => blk W' be = some X) (by kernel_rfl) hcell (fun hHeld => ?_)
  refine wpAnyH_take (i := 0) (oi := ⟨_, _, _, _, _, _⟩) (v := ?_) rfl (by kernel_rfl) (by kernel_rfl) (by kernel_rfl) (fun _ _ _ h => h) (Or.inl ⟨by rfl, ?_⟩) (by assumption) ?_
  rotate_left 1
  · intro W' hSw
    go_simp
    try with_reducible rfl
  try simp only [Act.put, List.setIfInBounds_toArray, List.set_cons_zero, List.set_cons_succ]
  refine wpAnyH_take (i := 1) (oi := ⟨_, _, _, _, _, _⟩) (v := ?_) rfl (by kernel_rfl) (by kernel_rfl) (by kernel_rfl) (fun _ _ _ h => h) (Or.inl ⟨by rfl, ?_⟩) (by assumption) ?_
  rotate_left 1
  · intro W' hSw
    go_simp
    try with_reducible rfl
  try simp only [Act.put, List.setIfInBounds_toArray, List.set_cons_zero, List.set_cons_succ]
  refine wpAnyH_take (i := 2) (oi := ⟨_, _, _, _, _, _⟩) (v := ?_) rfl (by kernel_rfl) (by kernel_rfl) (by kernel_rfl) (fun _ _ _ h => h) (Or.inl ⟨by rfl, ?_⟩) (by assumption) ?_
  rotate_left 1
  · intro W' hSw
    go_simp
    try with_reducible rfl
  try simp only [Act.put, List.setIfInBounds_toArray, List.set_cons_zero, List.set_cons_succ]
  refine wpAnyH_take (i := 3) (oi := ⟨_, _, _, _, _, _⟩) (v := ?_) rfl (by kernel_rfl) (by kernel_rfl) (by kernel_rfl) (fun _ _ _ h => h) (Or.inl ⟨by rfl, ?_⟩) (by assumption) ?_
  rotate_left 1
  · intro W' hSw
    go_simp
    try with_reducible rfl
  try simp only [Act.put, List.setIfInBounds_toArray, List.set_cons_zero, List.set_cons_succ]
  refine wpAnyH_take (i := 4) (oi := ⟨_, _, _, _, _, _⟩) (v := ?_) rfl (by kernel_rfl) (by kernel_rfl) (by kernel_rfl) (fun _ _ _ h => h) (Or.inl ⟨by rfl, ?_⟩) (by assumption) ?_
  rotate_left 1
  · intro W' hSw
    go_simp
    try with_reducible rfl
  try simp only [Act.put, List.setIfInBounds_toArray, List.set_cons_zero, List.set_cons_succ]
  refine wpAnyH_take (i := 5) (oi := ⟨_, _, _, _, _, _⟩) (v := ?_) rfl (by kernel_rfl) (by kernel_rfl) (by kernel_rfl) (fun _ _ _ h => h) (Or.inl ⟨by rfl, ?_⟩) (by assumption) ?_
  rotate_left 1
  · intro W' hSw
    go_simp
    try with_reducible rfl
  try simp only [Act.put, List.setIfInBounds_toArray, List.set_cons_zero, List.set_cons_succ]
  refine wpAnyH_take (i := 6) (oi := ⟨_, _, _, _, _, _⟩) (v := ?_) rfl (by kernel_rfl) (by kernel_rfl) (by kernel_rfl) (fun _ _ _ h => h) (Or.inl ⟨by rfl, ?_⟩) (by assumption) ?_
  rotate_left 1
  · intro W' hSw
    go_simp
    try with_reducible rfl
  try simp only [Act.put, List.setIfInBounds_toArray, List.set_cons_zero, List.set_cons_succ]
  refine wpAnyH_take (i := 7) (oi := ⟨_, _, _, _, _, _⟩) (v := ?_) rfl (by kernel_rfl) (by kernel_rfl) (by kernel_rfl) (fun _ _ _ h => h) (Or.inl ⟨by rfl, ?_⟩) (by assumption) ?_
  rotate_left 1
  · intro W' hSw
    go_simp
    try with_reducible rfl
  try simp only [Act.put, List.setIfInBounds_toArray, List.set_cons_zero, List.set_cons_succ]
  refine wpAnyH_take (i := 8) (oi := ⟨_, _, _, _, _, _⟩) (v := ?_) rfl (by kernel_rfl) (by kernel_rfl) (by kernel_rfl) (fun _ _ _ h => h) (Or.inl ⟨by rfl, ?_⟩) (by assumption) ?_
  rotate_left 1
  · intro W' hSw
    go_simp
    try with_reducible rfl
  try simp only [Act.put, List.setIfInBounds_toArray, List.set_cons_zero, List.set_cons_succ]
  refine wpAnyH_take (i := 9) (oi := ⟨_, _, _, _, _, _⟩) (v := ?_) rfl (by kernel_rfl) (by kernel_rfl) (by kernel_rfl) (fun _ _ _ h => h) (Or.inl ⟨by rfl, ?_⟩) (by assumption) ?_
  rotate_left 1
  · intro W' hSw
    go_simp
    try with_reducible rfl
  try simp only [Act.put, List.setIfInBounds_toArray, List.set_cons_zero, List.set_cons_succ]
  refine wpAnyH_done (by kernel_rfl) ?_ _
  clear hHeld
  go_upto_region 6 with fail
  refine wp_loop_f 134 (ro1I B O W g be p x S sav s rn bl (s * 2)) (fun f _ => (jobsOf p s).length - (intOf (f 6)).toNat) rfl ⟨rfl, rfl, 0, 0, by omega, rfl, rfl, HI0⟩ ?_
  clear HI0 hcell hfre
  intro f V hrel
  obtain ⟨f0, f4, i, c, hi, f6, f5, HI⟩ := hrel
  have H6 := hid_of f6
  rw [frame134, f0, f4, f5, f6]
  clear f0 f4 f5 f6
  obtain ⟨O1, hFr, σ, hEA, hcase⟩ := HI.out
  have hblV : blk V bl = some Cl := (core_blk (((core_fr hFr (isE_no g)).blk (blk_lt HBL.out)).trans HBL.out)).1
  rcases hcase with ⟨rfl, hfold⟩ | ⟨rfl, hnone, hbeq⟩
  · have hRi := jobs_ok HOK.out (fun k hk => List.mem_of_mem_take hk) (σ := (S, x.stats)) HR.out hfold
    by_cases hin : i < (jobsOf p s).length
    · have hin' : (i : Int) < ((jobsOf p s).length : Int) := by omega
      obtain ⟨k, hk⟩ : ∃ k, (jobsOf p s)[i]? = some k := ⟨_, List.getElem?_eq_getElem hin⟩
      have hkm : k ∈ jobsOf p s := List.mem_of_getElem? hk
      obtain ⟨r, hr, hdr⟩ := jobs_rule hkm
      obtain ⟨j1, j2, j3, j4⟩ := jobs_head HOK.out hkm
      obtain ⟨jb, bj, Cj, b1, b2, b3, b4, b5⟩ := HJ.out.at hin
      have hjc := HJS.out i jb k b1 hk
      have hCj : blk V bj = some Cj := (core_blk (((core_fr hFr (isE_no g)).blk (blk_lt b3)).trans b3)).1
      have hil : (i + 1) * 4 ≤ (jobsOf p s).length * 4 := Nat.mul_le_mul_right _ hin
      rw [b2] at hjn
      have i0 : (0 : Int) ≤ (i : Int) := by omega
      have i2 : ((i : Int)).toNat = i := by omega
      have hcj : i * 4 + 3 < Cj.length := by omega
      obtain ⟨hcell, hfre, hsat, -, -⟩ := eat_bst hEA HXS.out
      obtain ⟨X1, hX1⟩ : ∃ X1, X1 = (xQ x σ.2).enc := ⟨_, rfl⟩
      rw [← hX1] at hcell
      obtain ⟨-, -, -, -, -, -, -, -, y7, -, -, -, -, -⟩ := eng_cells hX1
      have e7 : (xQ x σ.2).round = (rn : Int) := HXR.out
      rw [e7] at y7
      by_cases hr0 : rn = 0
      · have hfull := hjc.1.ext (core_fr hFr (isE_no g))
        have hsgp : seg Cj (i * 4) 3 = plE (k : Int) (-1) jb.full.src.a jb.full.src.len jb.full.src.cap := by
          have := seg_in (p := 0) (m := 3) b5 (by omega)
          rw [Nat.add_zero] at this
          rw [this, ← hfull.enc]
          exact Job.full_get jb
        have hfire := fire_any B O1 V g be p (xQ x σ.2) σ.1 sav hEA HOK.out hRi.1.2.1 hRi.1.1 k r hr jb.full (-1) hfull (hP p k) (by rw [← hdr]; exact j4) (hRi.1.2.2 _ j1).2.2
        rw [← hdr] at hfire
        have HFI := hid_of hfire
        have HFOLD := hid_of hfold
        have HFR := hid_of hFr
        have HBE := hid_of hRi.2
        have HK := hid_of hk
        have HKM := hid_of hkm
        subst hr0
        clear HI hFr hEA hfold hRi hk hkm hr hdr j1 j2 j3 j4 b1 b2 b3 b4 b5 hjc hil hfull hX1 hsat hfire e7
        go_wp2_with fail
        refine HFI.out.mono ?_
        intro e V2 hfp
        obtain ⟨c', rfl, hres⟩ := fire_step HOK.out HKM.out hfp
        have HI' : Hid (JobI B O W g be p x S sav s 0 (i + 1) c' V2) := by
          rcases hres with ⟨rfl, σ', g1, O2, g2, g3⟩ | ⟨rfl, g1, σ', g4, O2, g2, g3⟩
          · exact ⟨O2, HFR.out.trans g2, σ', g3, .inl ⟨rfl, by rw [foldO_take HK.out HFOLD.out]; exact g1⟩⟩
          · exact ⟨O2, HFR.out.trans g2, σ', g3, .inr ⟨rfl, foldO_none HK.out HFOLD.out g1, HBE.out.trans g4⟩⟩
        clear hfp hres HFI HFR HFOLD
        dsimp only
        go_wp2_with fail
        refine ⟨rfl, rfl, ⟨rfl, rfl, i + 1, c', by omega, ?_, rfl, HI'⟩, ?_⟩
        · show Value.int .i64 _ = _
          go_num
        · show (jobsOf p s).length - (intOf (Value.int .i64 _)).toNat < (jobsOf p s).length - (intOf (f 6)).toNat
          rw [H6.out]
          simp [intOf]; omega
      · have hr0' : ¬ (rn : Int) = 0 := by omega
        have hr0b : ((rn : Int) == 0) = false := by simp; exact hr0
        obtain ⟨-, D, hD, hDl, hDs⟩ := hjc
        have hdn : nth Cj (i * 4 + 3) = some (.slice jb.deltas.a jb.deltas.len jb.deltas.cap) := nth_in (j := 3) b5 (Job.deltas_get jb) (by omega)
        have hdl : jb.deltas.len = (delOf p s k).length := by rw [← hD.1]; exact hDl
        rw [hdl] at hdn hD
        have h8 := HOK.out.b8 k r hr
        have hd8 : (delOf p s k).length ≤ 8 := by
          have h1 : (delOf p s k).length ≤ (List.range (p.L k).length).length := by unfold delOf; exact List.length_filter_le _ _
          rw [List.length_range] at h1; omega
        have HI2 : Hid (DelI B O W g be p x S sav s rn k σ 0 0 V) := ⟨O1, hFr, σ, hEA, .inl ⟨rfl, rfl⟩⟩
        have HDl := hid_of hD
        have HDs := hid_of hDs
        have HCj := hid_of b3
        have HFOLD := hid_of hfold
        have HBE := hid_of hRi.2
        have HRI := hid_of hRi.1
        have HK := hid_of hk
        have HKM := hid_of hkm
        have HRR := hid_of hr
        have HDR := hid_of hdr
        have HJ4 := hid_of j4
        have HJ1 := hid_of j1
        have HFR0 := hid_of hFr
        clear HI hFr hEA hfold hRi hk hkm hr hdr j1 j2 j3 j4 b1 b2 b3 b4 b5 hX1 hsat e7 hD hDl hDs hil h8 hdl
        go_upto_region 11 with fail
        clear hcell hfre y7 hblV hCj
        refine wp_loop_f 134 (ro2I B O W g be p x S sav s rn bl (s * 2) i k σ) (fun f _ => (delOf p s k).length - (intOf (f 7)).toNat) rfl ⟨rfl, rfl, rfl, 0, 0, by omega, rfl, rfl, HI2⟩ ?_
        clear HI2
        intro f' V2 hrel
        obtain ⟨f0, f4, f6, j, c, hj, f7, f5, HI⟩ := hrel
        have H7 := hid_of f7
        rw [frame134, f0, f4, f5, f6, f7]
        clear f0 f4 f5 f6 f7
        obtain ⟨O2, hFr, σ2, hEA, hcase⟩ := HI.out
        have hblV : blk V2 bl = some Cl := (core_blk (((core_fr hFr (isE_no g)).blk (blk_lt HBL.out)).trans HBL.out)).1
        have hCj : blk V2 bj = some Cj := (core_blk (((core_fr hFr (isE_no g)).blk (blk_lt HCj.out)).trans HCj.out)).1
        rcases hcase with ⟨rfl, hfold⟩ | ⟨rfl, hnone, hbeq⟩
        · have hR2 := foldD_ok HOK.out HKM.out HRI.out hfold
          by_cases hjn2 : j < (delOf p s k).length
          · have hjn' : (j : Int) < ((delOf p s k).length : Int) := by omega
            obtain ⟨d, hd⟩ : ∃ d, (delOf p s k)[j]? = some d := ⟨_, List.getElem?_eq_getElem hjn2⟩
            obtain ⟨l, hl1, hl2, hl3⟩ := del_lit (List.mem_of_getElem? hd)
            obtain ⟨yd, bd, Cd, c1, c2, c3, c4, c5⟩ := HDl.out.at hjn2
            have hpc := (HDs.out j yd d c1 hd).ext (core_fr hFr (isE_no g))
            have hCd : blk V2 bd = some Cd := (core_blk (((core_fr hFr (isE_no g)).blk (blk_lt c3)).trans c3)).1
            have hjl2 : (j + 1) * 3 ≤ (delOf p s k).length * 3 := Nat.mul_le_mul_right _ hjn2
            rw [c2] at hdn
            have j0 : (0 : Int) ≤ (j : Int) := by omega
            have j2 : ((j : Int)).toNat = j := by omega
            have hcd : j * 3 + 2 < Cd.length := by omega
            have hsgp : seg Cd (j * 3) 3 = plE (k : Int) (d : Int) yd.src.a yd.src.len yd.src.cap := by
              rw [c5, hpc.enc]
            obtain ⟨hcell, hfre, hsat, -, -⟩ := eat_bst hEA HXS.out
            have hfire := fireD_any B O2 V2 g be p (xQ x σ2.2) σ2.1 sav hEA HOK.out hR2.1.2.1 hR2.1.1 k r HRR.out yd d l hl1 hpc (hP p k) (by rw [← HDR.out]; exact HJ4.out) (hR2.1.2.2 _ HJ1.out).2.2
            rw [← HDR.out, ← hl3] at hfire
            have HFI := hid_of hfire
            have HFOLD2 := hid_of hfold
            have HFR := hid_of hFr
            have HBE2 := hid_of hR2.2
            have HD := hid_of hd
            clear HI hFr hEA hfold hR2 hd hl1 hl2 hl3 c1 c2 c3 c4 c5 hpc hjl2 hsat hfire
            go_wp2_with fail
            refine HFI.out.mono ?_
            intro e V3 hfp
            obtain ⟨c', rfl, hres⟩ := fireD_step HOK.out HKM.out hfp
            have HI' : Hid (DelI B O W g be p x S sav s rn k σ (j + 1) c' V3) := by
              rcases hres with ⟨rfl, σ', g1, O3, g2, g3⟩ | ⟨rfl, g1, σ', g4, O3, g2, g3⟩
              · exact ⟨O3, HFR.out.trans g2, σ', g3, .inl ⟨rfl, by rw [foldO_take HD.out HFOLD2.out]; exact g1⟩⟩
              · refine ⟨O3, HFR.out.trans g2, σ', g3, .inr ⟨rfl, foldO_none HK.out HFOLD.out ?_, HBE.out.trans (HBE2.out.trans g4)⟩⟩
                unfold jobO
                rw [if_neg hr0]
                exact foldO_none HD.out HFOLD2.out g1
            clear hfp hres HFI HFR HFOLD2
            dsimp only
            go_wp2_with fail
            refine ⟨rfl, rfl, ⟨rfl, rfl, rfl, j + 1, c', by omega, ?_, rfl, HI'⟩, ?_⟩
            · show Value.int .i64 _ = _
              go_num
            · show (delOf p s k).length - (intOf (Value.int .i64 _)).toNat < (delOf p s k).length - (intOf (f' 7)).toNat
              rw [H7.out]
              simp [intOf]; omega
          · obtain rfl : j = (delOf p s k).length := by omega
            have hjn' : ¬ (((delOf p s k).length : Int) < ((delOf p s k).length : Int)) := by omega
            have HI' : Hid (JobI B O W g be p x S sav s rn (i + 1) 0 V2) := by
              refine ⟨O2, hFr, σ2, hEA, .inl ⟨rfl, ?_⟩⟩
              rw [foldO_take HK.out HFOLD.out]
              unfold jobO
              rw [if_neg hr0]
              rw [List.take_of_length_le (Nat.le_refl _)] at hfold
              exact hfold
            clear HI hFr hEA hfold hR2
            go_wp2_with fail
            refine ⟨rfl, rfl, ⟨rfl, rfl, i + 1, _, by omega, ?_, rfl, HI'⟩, ?_⟩
            · show Value.int .i64 _ = _
              go_num
            · show (jobsOf p s).length - (intOf (Value.int .i64 _)).toNat < (jobsOf p s).length - (intOf (f 6)).toNat
              rw [H6.out]
              simp [intOf]; omega
        · have hc3 : ¬ ((3 : Int) = 0) := by omega
          have HI' : Hid (JobI B O W g be p x S sav s rn (i + 1) 3 V2) := ⟨O2, hFr, σ2, hEA, .inr ⟨rfl, hnone, hbeq⟩⟩
          clear HI hFr hEA hnone hbeq
          by_cases hjn2 : j < (delOf p s k).length
          · have hjn' : (j : Int) < ((delOf p s k).length : Int) := by omega
            go_wp2_with fail
            refine ⟨rfl, rfl, ⟨rfl, rfl, i + 1, _, by omega, ?_, rfl, HI'⟩, ?_⟩
            · show Value.int .i64 _ = _
              go_num
            · show (jobsOf p s).length - (intOf (Value.int .i64 _)).toNat < (jobsOf p s).length - (intOf (f 6)).toNat
              rw [H6.out]
              simp [intOf]; omega
          · obtain rfl : j = (delOf p s k).length := by omega
            have hjn' : ¬ (((delOf p s k).length : Int) < ((delOf p s k).length : Int)) := by omega
            go_wp2_with fail
            refine ⟨rfl, rfl, ⟨rfl, rfl, i + 1, _, by omega, ?_, rfl, HI'⟩, ?_⟩
            · show Value.int .i64 _ = _
              go_num
            · show (jobsOf p s).length - (intOf (Value.int .i64 _)).toNat < (jobsOf p s).length - (intOf (f 6)).toNat
              rw [H6.out]
              simp [intOf]; omega
    · obtain rfl : i = (jobsOf p s).length := by omega
      have hin' : ¬ (((jobsOf p s).length : Int) < ((jobsOf p s).length : Int)) := by omega
      rw [List.take_of_length_le (Nat.le_refl _)] at hfold
      have hpm := promote_any B O1 V g be p (xQ x σ.2) σ.1 sav hEA HOK.out hRi.1.1 y s bl (s * 2) Cl (((core_fr hFr (isE_no g)).blk (blk_lt HBL.out)).trans HBL.out) (by omega) HY5.out (HLEV.out.ext (core_fr hFr (isE_no g))) hRi.1.2.2
      have HPM := hid_of hpm
      have HFOLD : Hid (jobsO p s rn (S, x.stats) = some σ) := hfold
      have HFR := hid_of hFr
      clear HI hFr hEA hfold hRi hpm
      go_upto_region 16 with fail
      go_wp2_with fail
      refine HPM.out.mono ?_
      rintro e V2 ⟨rfl, O2, hF2, hE2⟩
      have HF2 : Hid (Fr (isE g) O W O2 V2) := HFR.out.trans hF2
      have HE2 := hid_of hE2
      obtain ⟨hcell, hfre, hsat, -, -⟩ := eat_bst hE2 HXS.out
      obtain ⟨X1, hX1⟩ : ∃ X1, X1 = (xQ x σ.2).enc := ⟨_, rfl⟩
      rw [← hX1] at hcell
      obtain ⟨yl, -, -, -, -, -, -, -, -, -, y9, -, -, -⟩ := eng_cells hX1
      have e9 : (xQ x σ.2).stats.rounds = σ.2.rounds := rfl
      rw [e9] at y9
      have HX1 := hid_of hX1
      obtain ⟨S2, hS2⟩ : ∃ S2, S2 = promL σ.1 (headsOf p s) := ⟨_, rfl⟩
      rw [← hS2] at HE2
      have HS2 := hid_of hS2
      obtain ⟨gr, hgr⟩ : ∃ gr, gr = anyN σ.1 (headsOf p s) := ⟨_, rfl⟩
      rw [← hgr]
      have HGR := hid_of hgr
      clear hF2 hE2 hX1 hsat HPM HFR e9 hS2 hgr
      dsimp only
      go_upto_region 20 with fail
      go_upto_region 21 with fail
      obtain ⟨x1, hx1⟩ : ∃ x1, x1 = xQ x (qR σ.2) := ⟨_, rfl⟩
      have hsp : splice X1 9 [.int .i64 (wrap64 (σ.2.rounds + 1))] = x1.enc := by rw [hx1, HX1.out, Engine.stats_rounds_set]; rfl
      refine wp_world (fun V => blk V be = some x1.enc ∧ free V be = true ∧ V = put V2 be x1.enc) ⟨?_, ?_, ?_⟩ ?_
      · rw [hsp, blk_put, if_pos rfl, hcell]; rfl
      · rw [free_put]; exact hfre
      · rw [hsp]
      rintro V3 ⟨hcell3, hfre3, hV3⟩
      obtain ⟨hE3, hF3⟩ := HE2.out.cells x1 (by rw [hx1]; rfl) (by rw [hx1]; rfl) (by rw [hx1]; rfl) (by rw [hx1]; rfl)
      rw [← hV3] at hE3 hF3
      have HE3 := hid_of hE3
      have HF3 : Hid (Fr (isE g) O W O2 V3) := HF2.out.trans hF3
      obtain ⟨X3, hX3⟩ : ∃ X3, X3 = x1.enc := ⟨_, rfl⟩
      rw [← hX3] at hcell3
      obtain ⟨zl, -, -, -, -, z4, -, z6, z7, -, -, -, -, -⟩ := eng_cells hX3
      have e7 : x1.round = (rn : Int) := by rw [hx1]; exact HXR.out
      have e6 : x1.stratum = (s : Int) := by rw [hx1]; exact HXT.out
      rw [e7] at z7
      rw [e6] at z6
      have HX3 := hid_of hX3
      have HXX := hid_of hx1
      clear hsp hV3 hE3 hF3 hX3 e7 e6 hcell hfre yl y9 HE2 HF2 HX1
      cases gr with
      | true =>
        go_upto_region 23 with fail
        obtain ⟨x2, hx2⟩ : ∃ x2 : Engine, x2 = { x with round := ((rn + 1 : Nat) : Int), stats := qR σ.2 } := ⟨_, rfl⟩
        have hsp : splice X3 7 [.int .i64 ((rn : Int) + 1)] = x2.enc := by rw [hx2, HX3.out, Engine.round_set, HXX.out]; rfl
        obtain ⟨hE4, hF4⟩ := HE3.out.cells x2 (by rw [hx2, HXX.out]; rfl) (by rw [hx2, HXX.out]; rfl) (by rw [hx2, HXX.out]; rfl) (by rw [hx2, HXX.out]; rfl)
        have HP : Hid (Q (.returned (.tuple #[.int .i64 1, .int .i64 0])) (put V3 be x2.enc)) := by
          show Q _ _
          rw [HQ.out]
          unfold RoundPost
          rw [HFOLD.out]
          show if _ then _ else _
          rw [← HGR.out, if_pos rfl, ← HS2.out, ← hx2]
          exact ⟨rfl, O2, HF3.out.trans hF4, hE4⟩
        refine wp_world (fun V => V = put V3 be x2.enc) ?_ ?_
        · rw [← hsp]
        rintro V4 rfl
        clear hsp hE4 hF4 hx2
        go_wp2_with fail
        try go_ret2
        exact HP.out
      | false =>
        go_upto_region 25 with fail
        obtain ⟨x2, hx2⟩ : ∃ x2 : Engine, x2 = { x with stratum := ((s + 1 : Nat) : Int), round := 0, stats := qR σ.2 } := ⟨_, rfl⟩
        have hsp : splice (splice X3 6 [.int .i64 ((s : Int) + 1)]) 7 [.int .i64 0] = x2.enc := by rw [hx2, HX3.out, Engine.stratum_set, Engine.round_set, HXX.out]; rfl
        obtain ⟨hE4, hF4⟩ := HE3.out.cells x2 (by rw [hx2, HXX.out]; rfl) (by rw [hx2, HXX.out]; rfl) (by rw [hx2, HXX.out]; rfl) (by rw [hx2, HXX.out]; rfl)
        refine wp_world (fun V => V = put V3 be x2.enc) ?_ ?_
        · rw [← hsp]
        rintro V4 hV4
        rw [← hV4] at hE4 hF4
        have HE4 := hid_of hE4
        have HF4 : Hid (Fr (isE g) O W O2 V4) := HF3.out.trans hF4
        obtain ⟨hcell4, hfre4, -, -, -⟩ := eat_bst hE4 (by rw [hx2]; exact HXS.out)
        obtain ⟨X4, hX4⟩ : ∃ X4, X4 = x2.enc := ⟨_, rfl⟩
        rw [← hX4] at hcell4
        obtain ⟨wl, -, -, -, -, w4, -, w6, w7, -, -, -, -, -⟩ := eng_cells hX4
        have e6 : x2.stratum = ((s + 1 : Nat) : Int) := by rw [hx2]
        have e4 : x2.levels.len = p.St := by rw [hx2]; exact HLL.out
        rw [e6] at w6
        rw [e4] at w4
        have HX2 := hid_of hx2
        clear hsp hE4 hF4 hx2 hV4 hX4 e6 e4 hcell3 hfre3 zl z4 z6 z7 HE3 HF3 HX3
        refine wp_region_held_drew (S := fun W' => blk W' be = some X4) (by kernel_rfl) hcell4 (fun hHeld => ?_)
        refine wpAnyH_take (i := 0) (oi := ⟨_, _, _, _, _, _⟩) (v := ?_) rfl (by kernel_rfl) (by kernel_rfl) (by kernel_rfl) (fun _ _ _ h => h) (Or.inl ⟨by rfl, ?_⟩) (by assumption) ?_
        rotate_left 1
        · intro W' hSw
          go_simp
          try with_reducible rfl
        try simp only [Act.put, List.setIfInBounds_toArray, List.set_cons_zero, List.set_cons_succ]
        refine wpAnyH_take (i := 1) (oi := ⟨_, _, _, _, _, _⟩) (v := ?_) rfl (by kernel_rfl) (by kernel_rfl) (by kernel_rfl) (fun _ _ _ h => h) (Or.inl ⟨by rfl, ?_⟩) (by assumption) ?_
        rotate_left 1
        · intro W' hSw
          go_simp
          try with_reducible rfl
        try simp only [Act.put, List.setIfInBounds_toArray, List.set_cons_zero, List.set_cons_succ]
        refine wpAnyH_take (i := 2) (oi := ⟨_, _, _, _, _, _⟩) (v := ?_) rfl (by kernel_rfl) (by kernel_rfl) (by kernel_rfl) (fun _ _ _ h => h) (Or.inl ⟨by rfl, ?_⟩) (by assumption) ?_
        rotate_left 1
        · intro W' hSw
          go_simp
          try with_reducible rfl
        try simp only [Act.put, List.setIfInBounds_toArray, List.set_cons_zero, List.set_cons_succ]
        refine wpAnyH_take (i := 3) (oi := ⟨_, _, _, _, _, _⟩) (v := ?_) rfl (by kernel_rfl) (by kernel_rfl) (by kernel_rfl) (fun _ _ _ h => h) (Or.inl ⟨by rfl, ?_⟩) (by assumption) ?_
        rotate_left 1
        · intro W' hSw
          go_simp
          try with_reducible rfl
        try simp only [Act.put, List.setIfInBounds_toArray, List.set_cons_zero, List.set_cons_succ]
        refine wpAnyH_take (i := 4) (oi := ⟨_, _, _, _, _, _⟩) (v := ?_) rfl (by kernel_rfl) (by kernel_rfl) (by kernel_rfl) (fun _ _ _ h => h) (Or.inl ⟨by rfl, ?_⟩) (by assumption) ?_
        rotate_left 1
        · intro W' hSw
          go_simp
          try with_reducible rfl
        try simp only [Act.put, List.setIfInBounds_toArray, List.set_cons_zero, List.set_cons_succ]
        refine wpAnyH_take (i := 5) (oi := ⟨_, _, _, _, _, _⟩) (v := ?_) rfl (by kernel_rfl) (by kernel_rfl) (by kernel_rfl) (fun _ _ _ h => h) (Or.inl ⟨by rfl, ?_⟩) (by assumption) ?_
        rotate_left 1
        · intro W' hSw
          go_simp
          try with_reducible rfl
        try simp only [Act.put, List.setIfInBounds_toArray, List.set_cons_zero, List.set_cons_succ]
        refine wpAnyH_take (i := 6) (oi := ⟨_, _, _, _, _, _⟩) (v := ?_) rfl (by kernel_rfl) (by kernel_rfl) (by kernel_rfl) (fun _ _ _ h => h) (Or.inl ⟨by rfl, ?_⟩) (by assumption) ?_
        rotate_left 1
        · intro W' hSw
          go_simp
          try with_reducible rfl
        try simp only [Act.put, List.setIfInBounds_toArray, List.set_cons_zero, List.set_cons_succ]
        refine wpAnyH_take (i := 7) (oi := ⟨_, _, _, _, _, _⟩) (v := ?_) rfl (by kernel_rfl) (by kernel_rfl) (by kernel_rfl) (fun _ _ _ h => h) (Or.inl ⟨by rfl, ?_⟩) (by assumption) ?_
        rotate_left 1
        · intro W' hSw
          go_simp
          try with_reducible rfl
        try simp only [Act.put, List.setIfInBounds_toArray, List.set_cons_zero, List.set_cons_succ]
        refine wpAnyH_take (i := 8) (oi := ⟨_, _, _, _, _, _⟩) (v := ?_) rfl (by kernel_rfl) (by kernel_rfl) (by kernel_rfl) (fun _ _ _ h => h) (Or.inl ⟨by rfl, ?_⟩) (by assumption) ?_
        rotate_left 1
        · intro W' hSw
          go_simp
          try with_reducible rfl
        try simp only [Act.put, List.setIfInBounds_toArray, List.set_cons_zero, List.set_cons_succ]
        refine wpAnyH_take (i := 9) (oi := ⟨_, _, _, _, _, _⟩) (v := ?_) rfl (by kernel_rfl) (by kernel_rfl) (by kernel_rfl) (fun _ _ _ h => h) (Or.inl ⟨by rfl, ?_⟩) (by assumption) ?_
        rotate_left 1
        · intro W' hSw
          go_simp
          try with_reducible rfl
        try simp only [Act.put, List.setIfInBounds_toArray, List.set_cons_zero, List.set_cons_succ]
        refine wpAnyH_done (by kernel_rfl) ?_ _
        clear hHeld
        by_cases hls : s + 1 < p.St
        · have hls' : ((s + 1 : Nat) : Int) < (p.St : Int) := by omega
          have HP : Hid (Q (.returned (.tuple #[.int .i64 2, .int .i64 0])) V4.drew) := by
            show Q _ _
            rw [HQ.out]
            unfold RoundPost
            rw [HFOLD.out]
            show if _ then _ else if _ then _ else _
            rw [← HGR.out, if_neg (by decide), if_pos hls, ← HS2.out, ← HX2.out]
            exact ⟨rfl, O2, HF4.out.drew, HE4.out.ext (extd _)⟩
          clear HE4 HF4
          go_wp2_with fail
          try go_ret2
          exact HP.out
        · have hls' : ¬ ((s + 1 : Nat) : Int) < (p.St : Int) := by omega
          have hfin := finish_any B O2 V4.drew g be p x2 S2 sav (HE4.out.ext (extd _)) h64
          have HFI := hid_of hfin
          clear hfin
          go_wp2_with fail
          refine HFI.out.mono ?_
          rintro en V5 ⟨rfl, sav', hE5, hF5⟩
          have HP : Hid (Q (.returned (.tuple #[.int .i64 3, .int .i64 0])) V5) := by
            show Q _ _
            rw [HQ.out]
            unfold RoundPost
            rw [HFOLD.out]
            show if _ then _ else if _ then _ else _
            rw [← HGR.out, if_neg (by decide), if_neg hls, ← HS2.out]
            have hx5 : ({ x2 with running := false, stratum := 0 } : Engine) = { x with running := false, stratum := 0, round := 0, stats := qR σ.2 } := by rw [HX2.out]
            rw [hx5] at hE5
            exact ⟨rfl, sav', O2, HF4.out.drew.trans hF5, hE5⟩
          clear HE4 HF4 HFI hE5 hF5
          dsimp only
          go_wp2_with fail
          try go_ret2
          exact HP.out
  · have hc3 : ¬ ((3 : Int) = 0) := by omega
    have hre := restore_any B O1 V g be p (xQ x σ.2) σ.1 sav hEA HOK.out (by rw [hbeq.1]; exact HR.out.1) HSV.out
    have HRE := hid_of hre
    have HFR := hid_of hFr
    have HBE := hid_of hbeq
    have HNO := hid_of hnone
    clear HI hFr hEA hnone hbeq hre
    by_cases hin : i < (jobsOf p s).length
    · have hin' : (i : Int) < ((jobsOf p s).length : Int) := by omega
      go_wp2_with fail
      refine HRE.out.mono ?_
      rintro en V5 ⟨rfl, sav', O5, hF5, hE5⟩
      have HP : Hid (Q (.returned (.tuple #[.int .i64 0, .int .i64 3])) V5) := by
        show Q _ _
        rw [HQ.out]
        unfold RoundPost
        rw [HNO.out]
        exact ⟨rfl, σ.1, σ.2, sav', HBE.out, O5, HFR.out.trans hF5, hE5⟩
      clear HRE HFR hE5 hF5
      dsimp only
      go_wp2_with fail
      try go_ret2
      exact HP.out
    · obtain rfl : i = (jobsOf p s).length := by omega
      have hin' : ¬ (((jobsOf p s).length : Int) < ((jobsOf p s).length : Int)) := by omega
      go_wp2_with fail
      refine HRE.out.mono ?_
      rintro en V5 ⟨rfl, sav', O5, hF5, hE5⟩
      have HP : Hid (Q (.returned (.tuple #[.int .i64 0, .int .i64 3])) V5) := by
        show Q _ _
        rw [HQ.out]
        unfold RoundPost
        rw [HNO.out]
        exact ⟨rfl, σ.1, σ.2, sav', HBE.out, O5, HFR.out.trans hF5, hE5⟩
      clear HRE HFR hE5 hF5
      dsimp only
      go_wp2_with fail
      try go_ret2
      exact HP.out
end Go.Proofs.Qxb6500788a
