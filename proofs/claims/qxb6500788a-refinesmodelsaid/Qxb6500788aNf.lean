import Derived.Test.Qxb6500788aNe
import Derived.Test.Qxb6500788aWl
import Derived.StillTailTactics
import Derived.Deep.QuietTactic
import Derived.BigQuiet
import Derived.Deep.RegionHeld
import Derived.Deep.CutRange
import Derived.Laws.ResultCell
import Derived.Laws.Rows
import Derived.DeepKeys
import Derived.DataBytes
import Derived.Laws.StructEq
import Derived.Laws.AppendOwn
import Derived.Laws.MakeOwn
set_option linter.unusedSimpArgs false
set_option linter.unusedVariables false
namespace Go.Proofs.Qxb6500788a
open Go.RowKit Go.Blk
attribute [local go_sem ↓] execOp_load execOp_store execOp_alloc
attribute [local go_sem] Try.ld24 Try.st24 Try.ld25 Try.st25 Try.ld3 Try.st3 Try.ld30 Try.st30 Try.ld36 Try.st36 Try.ld4 Try.st4 Try.ld41 Try.st41 Try.ld50 Try.st50 Try.ld40 Try.st40 Try.ld42 Try.st42 Try.ld89 Try.st89 Try.ld91 Try.st91 Try.ld56 Try.st56 Try.ld97 Try.st97 Try.ld98 Try.st98 Try.ld101 Try.st101 Try.ld104 Try.st104 Try.ld57 Try.st57 Try.ld130 Try.st130 Try.ld2 Try.st2 Try.ld5 Try.st5 Try.ld9 Try.st9 Try.ld12 Try.st12 Try.ld21 Try.st21 Try.ld22 Try.st22 Try.ld29 Try.st29 Try.ld33 Try.st33 Try.ld59 Try.st59 Try.ld62 Try.st62 Try.ld69 Try.st69 Try.ld94 Try.st94 Try.ld96 Try.st96 Try.ld129 Try.st129 Try.ld158 Try.st158 Try.ld162 Try.st162 Try.ld47 Try.st47 Try.ld44 Try.st44 Try.ld137 Try.st137 Try.ld145 Try.st145 Try.ld43 Try.st43 Try.ld27 Try.st27 Try.ld38 Try.st38 Try.ld46 Try.st46 Try.ld49 Try.st49 Try.ld52 Try.st52 Try.ld54 Try.st54 Try.ld61 Try.st61 Try.ld80 Try.st80 Try.ld87 Try.st87 Try.ld93 Try.st93 Try.ld100 Try.st100 Try.ld103 Try.st103 Try.ld106 Try.st106 Try.ld109 Try.st109 Try.ld132 Try.st132 Try.ld147 Try.st147 Try.al47 Try.al44 Try.al137 Try.al145 Try.al43 Try.al27 Try.al38 Try.al46 Try.al49 Try.al52 Try.al54 Try.al61 Try.al80 Try.al87 Try.al93 Try.al100 Try.al103 Try.al106 Try.al109 Try.al132 Try.al147
attribute [local go_sem] GProgram.length_enc GProgram.ok_enc GProgram.all_get GProgram.all_set GProgram.preds_get GProgram.preds_set GProgram.rules_get GProgram.rules_set GProgram.strata_get GProgram.strata_set Answer.length_enc Answer.ok_enc Answer.all_get Answer.all_set Answer.code_get Answer.code_set Answer.n_get Answer.n_set Answer.rows_get Answer.rows_set Term.length_enc Term.ok_enc Term.all_get Term.all_set Term.var_get Term.var_set Term.n_get Term.n_set Atom.length_enc Atom.ok_enc Atom.all_get Atom.all_set Atom.pred_get Atom.pred_set Atom.args_get Atom.args_set GRule.length_enc GRule.ok_enc GRule.all_get GRule.all_set GRule.head_get GRule.head_set GRule.body_get GRule.body_set GRule.head_pred_get GRule.head_pred_set GRule.head_args_get GRule.head_args_set GOp.length_enc GOp.ok_enc GOp.all_get GOp.all_set GOp.kind_get GOp.kind_set GOp.pred_get GOp.pred_set GOp.t_get GOp.t_set GOp.n_get GOp.n_set GOp.base_get GOp.base_set GOp.rule_get GOp.rule_set GOp.rule_head_get GOp.rule_head_set GOp.rule_body_get GOp.rule_body_set GOp.rule_head_pred_get GOp.rule_head_pred_set GOp.rule_head_args_get GOp.rule_head_args_set PredInfo.length_enc PredInfo.ok_enc PredInfo.all_get PredInfo.all_set PredInfo.arity_get PredInfo.arity_set PredInfo.base_get PredInfo.base_set PredInfo.stratum_get PredInfo.stratum_set GStats.length_enc GStats.ok_enc GStats.all_get GStats.all_set GStats.rounds_get GStats.rounds_set GStats.fired_get GStats.fired_set GStats.emitted_get GStats.emitted_set GStats.fresh_get GStats.fresh_set Literal.length_enc Literal.ok_enc Literal.all_get Literal.all_set Literal.neg_get Literal.neg_set Literal.atom_get Literal.atom_set Literal.atom_pred_get Literal.atom_pred_set Literal.atom_args_get Literal.atom_args_set Engine.length_enc Engine.ok_enc Engine.all_get Engine.all_set Engine.prog_get Engine.prog_set Engine.st_get Engine.st_set Engine.levels_get Engine.levels_set Engine.running_get Engine.running_set Engine.stratum_get Engine.stratum_set Engine.round_get Engine.round_set Engine.saved_get Engine.saved_set Engine.stats_get Engine.stats_set Engine.prog_preds_get Engine.prog_preds_set Engine.prog_rules_get Engine.prog_rules_set Engine.prog_strata_get Engine.prog_strata_set Engine.stats_rounds_get Engine.stats_rounds_set Engine.stats_fired_get Engine.stats_fired_set Engine.stats_emitted_get Engine.stats_emitted_set Engine.stats_fresh_get Engine.stats_fresh_set Level.length_enc Level.ok_enc Level.all_get Level.all_set Level.heads_get Level.heads_set Level.jobs_get Level.jobs_set Plan.length_enc Plan.ok_enc Plan.all_get Plan.all_set Plan.rule_get Plan.rule_set Plan.delta_get Plan.delta_set Plan.src_get Plan.src_set Job.length_enc Job.ok_enc Job.all_get Job.all_set Job.full_get Job.full_set Job.deltas_get Job.deltas_set Job.full_rule_get Job.full_rule_set Job.full_delta_get Job.full_delta_set Job.full_src_get Job.full_src_set GState.length_enc GState.ok_enc GState.all_get GState.all_set GState.prog_get GState.prog_set GState.base_get GState.base_set GState.shown_get GState.shown_set GState.prog_preds_get GState.prog_preds_set GState.prog_rules_get GState.prog_rules_set GState.prog_strata_get GState.prog_strata_set Store.length_enc Store.ok_enc Store.all_get Store.all_set Store.arity_get Store.arity_set Store.rows_get Store.rows_set Env.length_enc Env.ok_enc Env.all_get Env.all_set Env.val_get Env.val_set Env.set_get Env.set_set
attribute [local go_sem] size_put size_ext blk_put free_put blk_alloc free_alloc blk_drew free_drew blk_ext free_ext lookOr_some putOr_some segAt_some cellAt_some storeIn_some put_put put_alloc_new length_arr ok_arr_u8 ok_arr_u32 ok_arr_u64 ok_arr_i64 ok_arr_sl cellsV_agg cellsV_int cellsV_bool cellsV_string cellsV_pointer cellsV_slice cellsV_sl ok_int ok_bool ok_string ok_pointer ok_slice ok_sl toList_arr seg_arr set_arr nth_splice nth_splice0 seg_splice seg_splice0 splice_splice splice_splice0 length_splice_if
attribute [local go_sem ↓] execOp_box
attribute [local go_sem] box_run nth_arr_u8 put_arr_u8 blk_drewN free_drewN put_drewN blk_raw free_raw
set_option maxRecDepth 100000 in
theorem frame119 (f : Nat → Value) : frameN 119 f = #[f 0, f 1, f 2, f 3, f 4, f 5, f 6, f 7, f 8, f 9, f 10, f 11, f 12, f 13, f 14, f 15, f 16, f 17, f 18, f 19, f 20, f 21, f 22, f 23, f 24, f 25, f 26, f 27, f 28, f 29, f 30, f 31, f 32, f 33, f 34, f 35, f 36, f 37, f 38, f 39, f 40, f 41, f 42, f 43, f 44, f 45, f 46, f 47, f 48, f 49, f 50, f 51, f 52, f 53, f 54, f 55, f 56, f 57, f 58, f 59, f 60, f 61, f 62, f 63, f 64, f 65, f 66, f 67, f 68, f 69, f 70, f 71, f 72, f 73, f 74, f 75, f 76, f 77, f 78, f 79, f 80, f 81, f 82, f 83, f 84, f 85, f 86, f 87, f 88, f 89, f 90, f 91, f 92, f 93, f 94, f 95, f 96, f 97, f 98, f 99, f 100, f 101, f 102, f 103, f 104, f 105, f 106, f 107, f 108, f 109, f 110, f 111, f 112, f 113, f 114, f 115, f 116, f 117, f 118] := by kernel_rfl
theorem build93 (w : World) (x : GProgram) (p : Option Addr) : (buildOp 93 #[(0, .agg x.enc.toArray), (1, .pointer p)]).run Try.prog w = .ok (.value (.agg (Engine.enc ⟨x, p, ⟨none, 0, 0⟩, false, 0, 0, ⟨none, 0, 0⟩, ⟨0, 0, 0, 0⟩⟩).toArray)) w := by
  obtain ⟨⟨aP, N, cP⟩, ⟨aR, M, cR⟩, S⟩ := x
  kernel_rfl
def NewX (w : World) (O0 : Own) (g : Nat) (p : Pg) (e : Ending) (V : World) : Prop := ∃ (be : Nat) (O' : Own) (x : Engine), e = .returned (.tuple #[.pointer (some ⟨be, 0, none⟩), .int .i64 0]) ∧ w.Extends V ∧ (∀ k, k < w.heap.size → O' k = O0 k) ∧ EAt w.heap.size O' V g be p x (List.replicate (3 * p.P.length) []) (List.replicate p.P.length []) ∧ x.running = false
def n1I (w : World) (O0 : Own) (g b1 be bst : Nat) (p : Pg) (x : Engine) (f : Nat → Value) (V : World) : Prop := f 1 = .pointer (some ⟨b1, 0, none⟩) ∧ f 4 = .pointer (some ⟨be, 0, none⟩) ∧ ∃ i : Nat, i ≤ p.P.length ∧ f 5 = .int .i64 (i : Nat) ∧ Hid (∃ O, NwS w O0 g b1 be bst p x (headsN p i) (fun _ => []) (3 * i) O V)
def n2I (w : World) (O0 : Own) (g b1 be bst : Nat) (p : Pg) (x : Engine) (i : Nat) (f : Nat → Value) (V : World) : Prop := f 1 = .pointer (some ⟨b1, 0, none⟩) ∧ f 4 = .pointer (some ⟨be, 0, none⟩) ∧ f 5 = .int .i64 (i : Nat) ∧ ∃ j : Nat, j ≤ 3 ∧ f 6 = .int .i64 (j : Nat) ∧ Hid (∃ O, NwS w O0 g b1 be bst p x (headsN p i) (fun _ => []) (3 * i + j) O V)
def n3I (w : World) (O0 : Own) (g b1 be bst : Nat) (p : Pg) (x : Engine) (f : Nat → Value) (V : World) : Prop := f 1 = .pointer (some ⟨b1, 0, none⟩) ∧ f 4 = .pointer (some ⟨be, 0, none⟩) ∧ ∃ k : Nat, k ≤ p.R.length ∧ f 8 = .int .i64 (k : Nat) ∧ Hid (∃ O, NwS w O0 g b1 be bst p x (headsN p p.P.length) (jobsN p k) (3 * p.P.length) O V)
theorem good_of_ok {p : Pg} (hok : PgOk p) : Good p.P p.R p.L p.St := by
  refine ⟨fun k x _ hx => hok.str x (List.mem_of_getElem? hx), fun k r _ hr y hy j l x _ hl hx => ?_⟩
  obtain ⟨h1, h2⟩ := hok.lay k r hr l (List.mem_of_getElem? hl)
  unfold strP at h1 h2
  rw [List.getD_eq_getElem?_getD, List.getD_eq_getElem?_getD, hy, hx] at h1 h2
  have h1' : x.stratum ≤ y.stratum := h1
  refine ⟨by omega, fun hn => ?_⟩
  have h2' : x.stratum < y.stratum := h2 hn.1
  have := hn.2
  omega
theorem prIn_ok {W : World} {b1 : Nat} {x : GProgram} {p : Pg} (hb : blk W b1 = some x.enc) (h : PrgC W x p) (hok : PgOk p) : ∃ bP bR ba bn bc, PrIn b1 bP bR x.preds.a p.P.length x.preds.cap x.rules.a p.R.length x.rules.cap p.St p.P p.R ba bn bc p.L W := by
  obtain ⟨h1, h2, h3, ⟨bP, h4⟩, ⟨bR, h5⟩, h6⟩ := h
  refine ⟨bP, bR, fun k => (p.R.getD k GRule.zero).body.a, fun k => (p.R.getD k GRule.zero).body.len, fun k => (p.R.getD k GRule.zero).body.cap, ?_, h4, h5, fun k r hr => ?_⟩
  · rw [hb, ← h1, ← h2, ← h3]; rfl
  · obtain ⟨bL, oL, ba, bc, g1, g2⟩ := h6 k r hr
    have e1 : p.R.getD k GRule.zero = r := by rw [List.getD_eq_getElem?_getD, hr]; rfl
    dsimp only
    rw [e1]
    have e2 : r.body = ⟨ba, (p.L k).length, bc⟩ := by
      unfold Sl.val at g1
      injection g1 with q1 q2 q3
      cases hr2 : r.body with
      | mk a n c => rw [hr2] at q1 q2 q3; simp only at q1 q2 q3; rw [q1, q2, q3]
    refine ⟨bL, oL, rfl, by rw [e2]; exact g2, ?_⟩
    rw [e2]
    refine ⟨hok.b8 k r hr, ?_, fun x hx => ?_, fun l hl => ?_⟩
    · obtain ⟨q, x, f1, f2, _⟩ := hok.head k r hr
      have := (List.getElem?_eq_some_iff.1 f2).1
      rw [f1]; omega
    · have := hok.der k r hr
      unfold basP at this
      rw [List.getD_eq_getElem?_getD, hx] at this
      exact this
    · obtain ⟨q, x, f1, f2, _⟩ := hok.lits k r hr l hl
      have := (List.getElem?_eq_some_iff.1 f2).1
      rw [f1]; omega
theorem pred_all {p : Pg} {W : World} {x : GProgram} (h : PrgC W x p) {i : Nat} (hi : i < p.P.length) : ∃ bP CP, x.preds.a = some ⟨bP, 0, none⟩ ∧ blk W bP = some CP ∧ i * 3 + 3 ≤ CP.length ∧ nth CP (i * 3 + 1) = some (.bool (basP p i)) ∧ nth CP (i * 3 + 2) = some (.int .i64 (strP p i)) ∧ nth CP (i * 3) = some (.int .i64 (p.P.getD i ⟨0, false, 0⟩).arity) := by
  obtain ⟨_, _, _, ⟨bP, hA⟩, _⟩ := h
  obtain ⟨y, CP, h1, h2, h3, h4, h5⟩ := hA.get hi
  rw [Nat.zero_add] at h4 h5
  have hil : (i + 1) * 3 ≤ p.P.length * 3 := Nat.mul_le_mul_right _ hi
  have e1 : p.P.getD i ⟨0, false, 0⟩ = y := by rw [List.getD_eq_getElem?_getD, h1]; rfl
  unfold basP strP
  rw [e1]
  exact ⟨bP, CP, h2, h3, by omega, nth_in (j := 1) h5 (PredInfo.base_get y) (by omega), nth_in (j := 2) h5 (PredInfo.stratum_get y) (by omega), nth_in (j := 0) h5 (PredInfo.arity_get y) (by omega)⟩
/-- One more job in its level. -/
theorem NwS.job {w : World} {O0 : Own} {g b1 be bst : Nat} {p : Pg} {x : Engine} {Hs : Nat → List Nat} {n k : Nat} {O : Own} {V V2 : World} (h : NwS w O0 g b1 be bst p x Hs (jobsN p k) n O V) (hO0 : ∀ k, k < w.heap.size → ¬ isG (g + 50) (O0 k)) {Lv : List Level} (hlv : LvIn w.heap.size O V g p x.levels Lv Hs (jobsN p k)) {s : Nat} {lv : Level} (y1 : Lv[s]? = some lv) {bl : Nat} {Cl : List Value} (y2 : x.levels.a = some ⟨bl, 0, none⟩) (y4 : blk V bl = some Cl) (y8 : O bl = .a (g + 50) 0) (hx2 : V.Extends V2) {y : Job} (hy : JobC (newc V.heap.size V2) y p s k) (hs : strP p (hdP p k).pred.toNat = (s : Int)) (hk : k ≤ 128) :
    ∃ a' c' W2, (Builtin.append_ #[98, 98] 98 #[.slice lv.jobs.a lv.jobs.len lv.jobs.cap, .slice (some ⟨V2.heap.size, 0, none⟩) 1 1]).run Try.prog (V2.alloc (.cells y.enc.toArray 106)) = .ok (.slice a' (lv.jobs.len + 1) c') W2 ∧ blk W2 bl = some Cl ∧ free W2 bl = true ∧ blk W2 be = some x.enc ∧ be ≠ bl ∧ ∃ O', NwS w O0 g b1 be bst p x Hs (jobsN p (k + 1)) n O' (put W2 bl (splice Cl (s * 2 + 1) [.slice a' (lv.jobs.len + 1) c'])) := by
  obtain ⟨O2, hO2⟩ : ∃ O2, O2 = lab O V.heap.size .no := ⟨_, rfl⟩
  have hN2 : NwS w O0 g b1 be bst p x Hs (jobsN p k) n O2 V2 := by rw [hO2]; exact h.new hx2 _
  have hlv2 : LvIn w.heap.size O2 V2 g p x.levels Lv Hs (jobsN p k) := by
    rw [hO2]
    exact hlv.keep (fun b hb _ => ⟨hx2.block b hb, lab_lt hb⟩) (Sub.ext (core_new hx2 _))
  obtain ⟨J, q1, q2, q3⟩ := hlv2.jb s lv y1
  have hJl : J.length ≤ k := by
    rw [q2]; unfold jobsN
    have := List.length_filter_le (fun k => decide (strP p (hdP p k).pred.toNat = (s : Int))) (List.range k)
    rw [List.length_range] at this
    exact this
  obtain ⟨a', c', W2, hrun, hrow2, hfr⟩ := appL Job.enc 4 64 98 106 Try.underlying98 info106 Job.length_enc Job.one_enc (by omega) (by omega) (W := V2) 98 y q1 hN2.sz (by omega) y.enc.toArray rfl 1
  have hno : ¬ (Lab.no = .a (g + 50) (2 + 2 * s)) := fun e => by cases e
  have hc := core_fr hfr hno
  have hJ1 : jobsN p (k + 1) s = jobsN p k s ++ [k] := by
    show (List.range (k + 1)).filter _ = _
    rw [filter_range_succ, if_pos (by simp; exact hs)]
    rfl
  have hJ2 : ∀ t, t ≠ s → jobsN p (k + 1) t = jobsN p k t := fun t ht => by
    show (List.range (k + 1)).filter _ = _
    rw [filter_range_succ, if_neg (by simp; rw [hs]; omega)]
    rfl
  have hbw : w.heap.size ≤ bl := (row_at hlv.row.1 bl (by rw [y2]; rfl)).1
  have y42 : blk V2 bl = some Cl := (hx2.blk (blk_lt y4)).trans y4
  have y82 : O2 bl = .a (g + 50) 0 := by rw [hO2, lab_lt (blk_lt y4)]; exact y8
  obtain ⟨z1, z2, z3⟩ := hlv2.set (lv' := ⟨lv.heads, ⟨a', lv.jobs.len + 1, c'⟩⟩) (Hs' := Hs) (Js' := jobsN p (k + 1)) (v := .slice a' (lv.jobs.len + 1) c') (o := 1) y1 (.inr rfl) hfr y2 y42 ((hlv2.hd s lv y1).fr hfr (lab_ne (by omega))) (by
    refine ⟨J ++ [y], hrow2, by rw [hJ1, List.length_append, List.length_append, q2]; rfl, fun i z k' hz hk' => ?_⟩
    rw [hJ1] at hk'
    by_cases hi : i < J.length
    · rw [List.getElem?_append_left hi] at hz
      rw [List.getElem?_append_left (by rw [← q2]; exact hi)] at hk'
      exact (q3 i z k' hz hk').ext hc
    · have hl := (List.getElem?_eq_some_iff.1 hz).1
      rw [List.length_append, List.length_singleton] at hl
      obtain rfl : i = J.length := by omega
      rw [List.getElem?_append_right (Nat.le_refl _), Nat.sub_self] at hz
      rw [q2, List.getElem?_append_right (Nat.le_refl _), Nat.sub_self] at hk'
      have e1 : y = z := Option.some.inj hz
      have e2 : k = k' := Option.some.inj hk'
      subst e1 e2
      refine (hy.sub ?_).ext hc
      rw [hO2]; exact newc_core O) rfl (by omega) (fun _ _ => rfl) hJ2
  have hbe : blk W2 be = some x.enc := hfr.blk hN2.ce (by rw [hN2.oe]; exact lab_gr (by omega))
  refine ⟨a', c', W2, hrun, z1, z2, hbe, fun e => ?_, _, hN2.lev ⟨2 + 2 * s, by omega, rfl⟩ hfr y82 (blk_lt y42) hbw hO0 _ z3⟩
  have := hN2.oe
  rw [e, y82] at this
  injection this with this _
  omega
attribute [local go_sem] prg_len prg0 prg1 prg2 prg_all prg_ok bslice97 bslice98 build93
attribute [local go_sem ↓] execOp_build execOp_bslice execOp_make
set_option maxRecDepth 20000 in
set_option maxHeartbeats 2000000 in
theorem new_x (w : World) (O0 : Own) (g : Nat) (p : Pg) (x0 : GProgram) (hprg : PrgC (core O0 w) x0 p) (hok : PgOk p) (hO0 : ∀ k, k < w.heap.size → ¬ isG g (O0 k) ∧ ¬ isG (g + 50) (O0 k)) :
    Calls Try.prog 11 #[.agg x0.enc.toArray] w (NewX w O0 g p) := by
  obtain ⟨Q, hQ⟩ : ∃ Q, Q = NewX w O0 g p := ⟨_, rfl⟩
  rw [← hQ]
  have HQ := hid_of hQ
  have h64 := hok.nP
  have h128 := hok.nR
  have h65 := hok.s2
  have h1S := hok.s1
  have HPRG := hid_of hprg
  have HOK := hid_of hok
  have HO0 := hid_of hO0
  have g0l := GProgram.length_enc x0
  have hx0 : nth x0.enc 0 = some (.slice x0.preds.a p.P.length x0.preds.cap) := by rw [← hprg.1]; exact GProgram.preds_get x0
  have hx1' : nth x0.enc 1 = some (.slice x0.rules.a p.R.length x0.rules.cap) := by rw [← hprg.2.1]; exact GProgram.rules_get x0
  have hx2 : nth x0.enc 2 = some (.int .i64 (p.St : Int)) := by rw [← hprg.2.2.1]; exact GProgram.strata_get x0
  clear hQ hprg hok hO0
  go_enter Try.func11, Try.ntmps11
  go_upto_region 1 with fail
  refine wp_world (fun W => blk W w.heap.size = some x0.enc ∧ w.Extends W ∧ W.heap.size = w.heap.size + 1) ⟨?_, extends_alloc (ext_Ext (Ext.refl _)) _, ?_⟩ ?_
  · rw [blk_alloc, if_pos rfl]
  · rw [World.size_alloc]
  rintro W1 ⟨hb1, hx1, hs1⟩
  obtain ⟨b1, e1⟩ : ∃ b1, b1 = w.heap.size := ⟨_, rfl⟩
  rw [← e1] at hb1 ⊢
  obtain ⟨bP0, bR0, ba0, bn0, bc0, hpi⟩ := prIn_ok hb1 (HPRG.out.uncore.ext hx1) HOK.out
  have hwl := wellLayered_any W1 b1 bP0 bR0 x0.preds.a p.P.length x0.preds.cap x0.rules.a p.R.length x0.rules.cap p.St p.P p.R ba0 bn0 bc0 p.L hpi h64 h128 (by omega) HOK.out.ar
  have HWL := hid_of hwl
  have HS1 := hid_of hs1
  have HE1 := hid_of e1
  clear hpi hwl hs1 e1
  go_wp2_with fail
  refine HWL.out.mono ?_
  rintro e V1 ⟨b, rfl, hbg, hxv⟩
  obtain rfl : b = true := hbg.2 (good_of_ok HOK.out)
  have hxv1 : W1.Extends V1 := ext_Ext hxv
  have hbV : blk V1 b1 = some x0.enc := (hxv1.blk (blk_lt hb1)).trans hb1
  have hEV : w.Extends V1 := hx1.trans hxv1
  have hsV : w.heap.size + 1 ≤ V1.heap.size := by have h1 := HS1.out; have h2 := hxv1.size; omega
  have hwb1 : w.heap.size ≤ b1 := by have := HE1.out; omega
  have hb1w : b1 ≤ w.heap.size := by have := HE1.out; omega
  have HEV := hid_of hEV
  clear HWL hbg hxv hb1 hx1 hxv1 hEV HS1 HE1
  dsimp only
  go_upto_region 3 with fail
  have lb1 := blk_lt hbV
  have m1 : ¬ b1 = V1.heap.size := by omega
  have m1' : ¬ b1 = V1.heap.size + 1 := by omega
  refine wp_region_held_drew (S := fun W' => blk W' b1 = some x0.enc) (by kernel_rfl) hbV (fun hHeld => ?_)
  refine wpAnyH_take (i := 0) (oi := ⟨_, _, _, _, _, _⟩) (v := ?_) rfl (by kernel_rfl) (by kernel_rfl) (by kernel_rfl) (fun _ _ _ h => h) (Or.inl ⟨by rfl, ?_⟩) (by assumption) ?_
  rotate_left 1
  · intro W' hSw
    go_simp
    try with_reducible rfl
  try simp only [Act.put, List.setIfInBounds_toArray, List.set_cons_zero, List.set_cons_succ]
  refine wpAnyH_ready (rs := [1]) (by kernel_rfl) (by simp) ?_
  refine AllReadyH.cons (o := ⟨_, _, _, _, _, _⟩) rfl (fun K' hK => ?_) AllReadyH.nil
  go_simp
  refine (newStore_x V1.drew).mono ?_
  rintro e W2 ⟨rfl, hW2⟩
  subst hW2
  dsimp only
  refine hK.out _ _ ((blk_alloc _ _ _ _).trans ((if_neg m1).trans hbV)) (fun hHeld => ?_)
  clear hK K'
  try simp only [Act.put, List.setIfInBounds_toArray, List.set_cons_zero, List.set_cons_succ]
  refine wpAnyH_take (i := 2) (oi := ⟨_, _, _, _, _, _⟩) (v := ?_) rfl (by kernel_rfl) (by kernel_rfl) (by kernel_rfl) (fun _ _ _ h => h) (Or.inl ⟨by rfl, ?_⟩) (by assumption) ?_
  rotate_left 1
  · intro W' hSw
    go_simp
    try with_reducible rfl
  try simp only [Act.put, List.setIfInBounds_toArray, List.set_cons_zero, List.set_cons_succ]
  refine wpAnyH_ready (rs := [3]) (by kernel_rfl) (by simp) ?_
  refine AllReadyH.cons (o := ⟨_, _, _, _, _, _⟩) rfl (fun K' hK => ?_) AllReadyH.nil
  go_simp
  refine hK.out _ _ ((blk_alloc _ _ _ _).trans ((if_neg (by rw [World.size_alloc]; exact m1')).trans ((blk_alloc _ _ _ _).trans ((if_neg m1).trans hbV)))) (fun hHeld => ?_)
  clear hK K'
  try simp only [Act.put, List.setIfInBounds_toArray, List.set_cons_zero, List.set_cons_succ]
  refine wpAnyH_take (i := 4) (oi := ⟨_, _, _, _, _, _⟩) (v := ?_) rfl (by kernel_rfl) (by kernel_rfl) (by kernel_rfl) (fun _ _ _ h => h) (Or.inl ⟨by rfl, ?_⟩) (by assumption) ?_
  rotate_left 1
  · intro W' hSw
    go_simp
    try with_reducible rfl
  try simp only [Act.put, List.setIfInBounds_toArray, List.set_cons_zero, List.set_cons_succ]
  refine wpAnyH_done (by kernel_rfl) ?_ _
  obtain ⟨xa, hxa⟩ : ∃ xa : Engine, xa = ⟨x0, some ⟨V1.heap.size, 0, none⟩, ⟨none, 0, 0⟩, false, 0, 0, ⟨none, 0, 0⟩, ⟨0, 0, 0, 0⟩⟩ := ⟨_, rfl⟩
  go_upto_region 4 with fail
  refine wp_world (fun W3 => blk W3 b1 = some x0.enc ∧ blk W3 V1.heap.size = some (sE none 0 0 none 0 0) ∧ free W3 V1.heap.size = true ∧ blk W3 (V1.heap.size + 1) = some xa.enc ∧ free W3 (V1.heap.size + 1) = true ∧ W3.heap.size = V1.heap.size + 2 ∧ w.Extends W3) ⟨?_, ?_, ?_, ?_, ?_, ?_, ?_⟩ ?_
  · rw [blk_drew, blk_alloc, if_neg (by rw [World.size_alloc]; omega), blk_alloc, if_neg m1]; exact hbV
  · rw [blk_drew, blk_alloc, if_neg (by rw [World.size_alloc]; omega), blk_alloc, if_pos rfl]
  · rw [free_drew, free_alloc, if_neg (by rw [World.size_alloc]; omega), free_alloc, if_pos rfl]
  · rw [blk_drew, blk_alloc, if_pos (by rw [World.size_alloc]), hxa]
  · rw [free_drew, free_alloc, if_pos (by rw [World.size_alloc])]
  · show ((V1.alloc _).alloc _).heap.size = _
    rw [World.size_alloc, World.size_alloc]
  · exact extends_drew (extends_alloc (extends_alloc HEV.out _) _)
  rintro W3 ⟨h1, h2, h3, h4, h5, h6, h7⟩
  obtain ⟨bst, hbst⟩ : ∃ bst, bst = V1.heap.size := ⟨_, rfl⟩
  obtain ⟨be, hbe⟩ : ∃ be, be = bst + 1 := ⟨_, rfl⟩
  rw [← hbst] at h2 h3 h4 h5 hxa
  rw [← hbst]
  rw [← hbe] at h4 h5
  rw [← hbe]
  have hwst : w.heap.size < bst := by omega
  have q1s : b1 < bst := by omega
  have qse : bst < be := by omega
  have n1 : ¬ b1 = bst := by omega
  have n2 : ¬ b1 = be := by omega
  have n3 : ¬ bst = be := by omega
  have n3' : ¬ be = bst := by omega
  have n2' : ¬ be = b1 := by omega
  have s3 : W3.heap.size ≤ be + 1 := by omega
  have s3' : be + 1 ≤ W3.heap.size := by omega
  have H7 := hid_of h7
  have HXA := hid_of hxa
  obtain ⟨XA, hXA⟩ : ∃ XA, XA = xa.enc := ⟨_, rfl⟩
  rw [← hXA] at h4
  have xal : XA.length = 13 := by rw [hXA]; exact Engine.length_enc xa
  have HXAE := hid_of hXA
  clear hHeld hxa h7 h6 hbe hbst hXA HEV hsV m1 m1' lb1 hbV
  have hmk1 := make91 W3 p.St (by omega)
  have k1 : ¬ b1 = W3.heap.size := by omega
  have k2 : ¬ bst = W3.heap.size := by omega
  have k3 : ¬ be = W3.heap.size := by omega
  have k3' : ¬ W3.heap.size = be := by omega
  go_upto_region 5 with fail
  refine wp_world (fun W4 => blk W4 b1 = some x0.enc ∧ blk W4 bst = some (sE none 0 0 none 0 0) ∧ free W4 bst = true ∧ blk W4 be = some (splice XA 4 [.slice (some ⟨W3.heap.size, 0, none⟩) p.St p.St]) ∧ free W4 be = true ∧ W4.heap[W3.heap.size]? = some (.cells (Array.replicate (p.St * 2) (Value.slice none 0 0)) 100 (0, 0)) ∧ W4.heap.size = W3.heap.size + 1 ∧ w.Extends W4) ⟨?_, ?_, ?_, ?_, ?_, ?_, ?_, ?_⟩ ?_
  · rw [blk_put, if_neg n2, blk_alloc, if_neg k1]; exact h1
  · rw [blk_put, if_neg n3, blk_alloc, if_neg k2]; exact h2
  · rw [free_put, free_alloc, if_neg k2]; exact h3
  · rw [blk_put, if_pos rfl, blk_alloc, if_neg k3, h4]; rfl
  · rw [free_put, free_alloc, if_neg k3]; exact h5
  · rw [heap_put, if_neg k3', heap_alloc, if_pos rfl]
  · rw [size_put, World.size_alloc]
  · exact extends_put (extends_alloc H7.out _) (by omega) _
  rintro W4 ⟨g1, g2, g3, g4, g5, g6, g7, g8⟩
  obtain ⟨bl, hbl⟩ : ∃ bl, bl = W3.heap.size := ⟨_, rfl⟩
  rw [← hbl] at g4 g6 k1 k2 k3 k3'
  rw [← hbl]
  have H8 := hid_of g8
  have HG6 := hid_of g6
  have s4 : W4.heap.size ≤ bl + 1 := by omega
  have s4' : bl + 1 ≤ W4.heap.size := by omega
  have qel : be < bl := by omega
  obtain ⟨XB, hXB⟩ : ∃ XB, XB = splice XA 4 [.slice (some ⟨bl, 0, none⟩) p.St p.St] := ⟨_, rfl⟩
  rw [← hXB] at g4
  have xbl : XB.length = 13 := by rw [hXB, length_splice1 (by omega)]; exact xal
  have HXBE := hid_of hXB
  clear h1 h2 h3 h4 h5 H7 hmk1 g7 g8 hbl xal hXB g6
  have hmk2 := make56 W4 p.P.length (by omega)
  have j1 : ¬ b1 = W4.heap.size := by omega
  have j2 : ¬ bst = W4.heap.size := by omega
  have j3 : ¬ be = W4.heap.size := by omega
  have j4 : ¬ bl = W4.heap.size := by omega
  have j3' : ¬ W4.heap.size = be := by omega
  go_upto_region 6 with fail
  obtain ⟨x, hx⟩ : ∃ x : Engine, x = ⟨x0, some ⟨bst, 0, none⟩, ⟨some ⟨bl, 0, none⟩, p.St, p.St⟩, false, 0, 0, ⟨some ⟨W4.heap.size, 0, none⟩, p.P.length, p.P.length⟩, ⟨0, 0, 0, 0⟩⟩ := ⟨_, rfl⟩
  have hxe : splice XB 8 [.slice (some ⟨W4.heap.size, 0, none⟩) p.P.length p.P.length] = x.enc := by
    rw [HXBE.out, HXAE.out, HXA.out, hx]
    have q1 := Engine.levels_set ⟨x0, some ⟨bst, 0, none⟩, ⟨none, 0, 0⟩, false, 0, 0, ⟨none, 0, 0⟩, ⟨0, 0, 0, 0⟩⟩ ⟨some ⟨bl, 0, none⟩, p.St, p.St⟩
    have q2 := Engine.saved_set ⟨x0, some ⟨bst, 0, none⟩, ⟨some ⟨bl, 0, none⟩, p.St, p.St⟩, false, 0, 0, ⟨none, 0, 0⟩, ⟨0, 0, 0, 0⟩⟩ ⟨some ⟨W4.heap.size, 0, none⟩, p.P.length, p.P.length⟩
    unfold Sl.val at q1 q2
    rw [q1, q2]
  refine wp_world (fun V => ∃ O, NwS w O0 g b1 be bst p x (headsN p 0) (fun _ => []) (3 * 0) O V) ?_ ?_
  · have hV : w.Extends (put (W4.alloc (.cells (Array.replicate p.P.length (Value.slice none 0 0)) 36)) be (splice XB 8 [.slice (some ⟨W4.heap.size, 0, none⟩) p.P.length p.P.length])) := extends_put (extends_alloc H8.out _) (by omega) _
    rw [hxe] at hV ⊢
    obtain ⟨bs, hbs⟩ : ∃ bs, bs = W4.heap.size := ⟨_, rfl⟩
    rw [← hbs] at hx j1 j2 j3 j4 j3'
    refine ⟨fun k => if k < w.heap.size then O0 k else if k = bst then .a g 0 else if k = be then .a (g + 1) 0 else if k = bs then .a (g + 1) 1 else if k = bl then .a (g + 50) 0 else .no, hV, fun k hk => if_pos hk, ?_, ?_, ?_, ?_, ?_, ?_, ?_, ?_⟩
    · rw [blk_put, if_neg n2, blk_alloc, if_neg (by rw [← hbs]; exact j1), g1, hx]
    · show (if _ then _ else _) = _
      rw [if_neg (by omega), if_neg n1, if_neg n2, if_neg j1, if_neg k1]
    · refine ⟨none, 0, 0, none, 0, 0, [], [], ⟨by rw [size_put, World.size_alloc]; omega, ?_, ?_, ?_, RowL.nil _ _ _ _ _ _, RowL.nil _ _ _ _ _ _, rfl, fun r d L hd => by (simp at hd)⟩, rfl⟩
      · rw [blk_put, if_neg n3, blk_alloc, if_neg (by rw [← hbs]; exact j2)]; exact g2
      · rw [free_put, free_alloc, if_neg (by rw [← hbs]; exact j2)]; exact g3
      · show (if _ then _ else _) = _
        rw [if_neg (by omega), if_pos rfl]
    · rw [blk_put, if_pos rfl, blk_alloc, if_neg (by rw [← hbs]; exact j3), g4]; rfl
    · rw [free_put, free_alloc, if_neg (by rw [← hbs]; exact j3)]; exact g5
    · show (if _ then _ else _) = _
      rw [if_neg (by omega), if_neg n3', if_pos rfl]
    · rw [hx]
      have hr0 := own_made W4 w.heap.size 36 1 p.P.length (List.replicate p.P.length (Value.slice none 0 0)) (by simp) (by omega) (by omega)
      rw [List.toArray_replicate] at hr0
      have hr := row_keep (W' := put (W4.alloc (.cells (Array.replicate p.P.length (Value.slice none 0 0)) 36)) be x.enc) hr0 (fun k hk => by
        have : W4.heap.size = k := Option.some.inj hk
        rw [heap_put, if_neg (by omega)])
      rw [← hx]
      refine ⟨?_, fun k hk => ?_⟩
      · rw [hx]
        have e9 : (List.replicate p.P.length (⟨none, 0, 0⟩ : Sl)).flatMap slE = List.replicate p.P.length (Value.slice none 0 0) := by
          generalize p.P.length = m
          induction m with
          | zero => rfl
          | succ m ih => rw [List.replicate_succ, List.flatMap_cons, ih, List.replicate_succ]; rfl
        rw [e9, hbs]
        rw [hx, hbs] at hr
        exact hr
      · have : bs = k := by rw [hx] at hk; exact Option.some.inj hk
        subst this
        show (if _ then _ else _) = _
        rw [if_neg (by omega), if_neg (by omega), if_neg (by omega), if_pos rfl]
    · refine ⟨List.replicate p.St ⟨⟨none, 0, 0⟩, ⟨none, 0, 0⟩⟩, ?_, by simp, fun s lv hs => ?_, fun s lv hs => ?_⟩
      · rw [hx]
        have e9 : (List.replicate p.St (⟨⟨none, 0, 0⟩, ⟨none, 0, 0⟩⟩ : Level)).flatMap Level.enc = List.replicate (p.St * 2) (Value.slice none 0 0) := by
          generalize p.St = m
          induction m with
          | zero => rfl
          | succ m ih => rw [List.replicate_succ, List.flatMap_cons, ih, show (m + 1) * 2 = (m * 2 + 1) + 1 by omega, List.replicate_succ, List.replicate_succ]; rfl
        rw [e9, List.length_replicate]
        refine ⟨⟨by simp, .inr ⟨bl, p.St, Array.replicate (p.St * 2) (Value.slice none 0 0), rfl, by omega, ?_, Nat.le_refl _, by simp only [maxLen]; omega, by simp, by simp⟩⟩, fun k hk => ?_⟩
        · rw [heap_put, if_neg k3', heap_alloc, if_neg (by rw [← hbs]; exact j4)]; exact HG6.out
        · have : bl = k := Option.some.inj hk
          subst this
          show (if _ then _ else _) = _
          rw [if_neg (by omega), if_neg (by omega), if_neg (by omega), if_neg (by omega), if_pos rfl]
      · rw [List.getElem?_replicate] at hs
        by_cases hsS : s < p.St
        · rw [if_pos hsS] at hs
          rw [← Option.some.inj hs]
          exact RowL.nil _ _ _ _ _ _
        · rw [if_neg hsS] at hs; cases hs
      · rw [List.getElem?_replicate] at hs
        by_cases hsS : s < p.St
        · rw [if_pos hsS] at hs
          rw [← Option.some.inj hs]
          exact ⟨[], RowL.nil _ _ _ _ _ _, rfl, fun i y k hy => by (simp at hy)⟩
        · rw [if_neg hsS] at hs; cases hs
  rintro V hN0
  have HN0 := hid_of hN0
  have HXX := hid_of hx
  have hxst : x.st = some ⟨bst, 0, none⟩ := by rw [hx]
  have HXST := hid_of hxst
  have hxp : x.prog = x0 := by rw [hx]
  have HXP := hid_of hxp
  have hw1 : w.heap.size ≤ b1 := by omega
  clear hxe g1 g2 g3 g4 g5 H8 HG6 HXA HXAE HXBE hmk2 j1 j2 j3 j4 j3' k1 k2 k3 k3' xbl hN0 hx s4 s3 s4' s3' hxst hxp
  have hp6 : p.P.length ≤ 64 := h64
  have HXPL : Hid (x.prog.preds.a = x0.preds.a ∧ x.prog.rules.a = x0.rules.a) := by rw [HXP.out]; exact ⟨rfl, rfl⟩
  have HPW := hid_of HPRG.out.uncore
  have HIG : Hid (∀ k, k < w.heap.size → ¬ isG g (O0 k)) := fun k hk => (HO0.out k hk).1
  have HIL : Hid (∀ k, k < w.heap.size → ¬ isG (g + 50) (O0 k)) := fun k hk => (HO0.out k hk).2
  go_upto_region 7 with fail
  refine wp_loop_f 119 (n1I w O0 g b1 be bst p x) (fun f _ => p.P.length - (intOf (f 5)).toNat) rfl ⟨rfl, rfl, 0, by omega, rfl, HN0⟩ ?_
  clear HN0
  intro f V hrel
  obtain ⟨f1, f4, i, hi, f5, HI⟩ := hrel
  have H5 := hid_of f5
  rw [frame119, f1, f4, f5]
  clear f1 f4 f5
  obtain ⟨O, hN⟩ := HI.out
  have hc1 : blk V b1 = some x0.enc := by rw [← HXP.out]; exact hN.c1
  by_cases hin : i < p.P.length
  · have hin' : (i : Int) < (p.P.length : Int) := by omega
    obtain ⟨bP, CP, hPa, hCP0, hPl, hPb, hPs, hPr⟩ := pred_all HPW.out hin
    rw [hPa] at hx0
    have i0 : (0 : Int) ≤ (i : Int) := by omega
    have i2 : ((i : Int)).toNat = i := by omega
    have l1 : i * 3 + 2 < CP.length := by omega
    have HCP := hid_of hCP0
    have HI2 : Hid (∃ O, NwS w O0 g b1 be bst p x (headsN p i) (fun _ => []) (3 * i + 0) O V) := ⟨O, hN⟩
    clear hPa hCP0 HI hN
    go_upto_region 10 with fail
    clear hc1
    refine wp_loop_f 119 (n2I w O0 g b1 be bst p x i) (fun f _ => 3 - (intOf (f 6)).toNat) rfl ⟨rfl, rfl, rfl, 0, by omega, rfl, HI2⟩ ?_
    clear HI2
    intro f' V hrel
    obtain ⟨f1, f4, f5, j, hj, f6, HI⟩ := hrel
    have H6 := hid_of f6
    rw [frame119, f1, f4, f5, f6]
    clear f1 f4 f5 f6
    obtain ⟨O, hN⟩ := HI.out
    have hc1 : blk V b1 = some x0.enc := by rw [← HXP.out]; exact hN.c1
    have hCP : blk V bP = some CP := (hN.ext.blk (blk_lt HCP.out)).trans HCP.out
    have hce := hN.ce
    obtain ⟨X, hX⟩ : ∃ X, X = x.enc := ⟨_, rfl⟩
    rw [← hX] at hce
    obtain ⟨xl, -, -, -, x3, x4, -, -, -, -, -, -, -, -⟩ := eng_cells hX
    rw [HXST.out] at x3
    by_cases hj3 : j < 3
    · have hj3' : (j : Int) < 3 := by omega
      have hdf := define_x w.heap.size O V.drew g bst _ (hN.st.ext (extd V)) (by rw [List.length_replicate]; omega) (p.P.getD i ⟨0, false, 0⟩).arity
      have HDF := hid_of hdf
      have HN := hid_of hN
      have HXE := hid_of hX
      obtain ⟨arv, harv⟩ : ∃ v, v = (p.P.getD i ⟨0, false, 0⟩).arity := ⟨_, rfl⟩
      rw [← harv] at hPr HDF
      clear hdf HI hN hX harv
      go_upto_region 12 with fail
      refine wp_region_held_drew (S := fun W' => blk W' be = some X ∧ blk W' b1 = some x0.enc ∧ blk W' bP = some CP) (by kernel_rfl) ⟨hce, hc1, hCP⟩ (fun hHeld => ?_)
      refine wpAnyH_take (i := 0) (oi := ⟨_, _, _, _, _, _⟩) (v := ?_) rfl (by kernel_rfl) (by kernel_rfl) (by kernel_rfl) (fun _ _ _ h => h) (Or.inl ⟨by rfl, ?_⟩) (by assumption) ?_
      rotate_left 1
      · intro W' hSw
        obtain ⟨hS1, hS2, hS3⟩ := hSw
        go_simp
        try with_reducible rfl
      try simp only [Act.put, List.setIfInBounds_toArray, List.set_cons_zero, List.set_cons_succ]
      refine wpAnyH_take (i := 1) (oi := ⟨_, _, _, _, _, _⟩) (v := ?_) rfl (by kernel_rfl) (by kernel_rfl) (by kernel_rfl) (fun _ _ _ h => h) (Or.inl ⟨by rfl, ?_⟩) (by assumption) ?_
      rotate_left 1
      · intro W' hSw
        obtain ⟨hS1, hS2, hS3⟩ := hSw
        go_simp
        try with_reducible rfl
      try simp only [Act.put, List.setIfInBounds_toArray, List.set_cons_zero, List.set_cons_succ]
      refine wpAnyH_take (i := 2) (oi := ⟨_, _, _, _, _, _⟩) (v := ?_) rfl (by kernel_rfl) (by kernel_rfl) (by kernel_rfl) (fun _ _ _ h => h) (Or.inl ⟨by rfl, ?_⟩) (by assumption) ?_
      rotate_left 1
      · intro W' hSw
        obtain ⟨hS1, hS2, hS3⟩ := hSw
        go_simp
        try with_reducible rfl
      try simp only [Act.put, List.setIfInBounds_toArray, List.set_cons_zero, List.set_cons_succ]
      refine wpAnyH_take (i := 3) (oi := ⟨_, _, _, _, _, _⟩) (v := ?_) rfl (by kernel_rfl) (by kernel_rfl) (by kernel_rfl) (fun _ _ _ h => h) (Or.inl ⟨by rfl, ?_⟩) (by assumption) ?_
      rotate_left 1
      · intro W' hSw
        obtain ⟨hS1, hS2, hS3⟩ := hSw
        go_simp
        try with_reducible rfl
      try simp only [Act.put, List.setIfInBounds_toArray, List.set_cons_zero, List.set_cons_succ]
      refine wpAnyH_take (i := 4) (oi := ⟨_, _, _, _, _, _⟩) (v := ?_) rfl (by kernel_rfl) (by kernel_rfl) (by kernel_rfl) (fun _ _ _ h => h) (Or.inl ⟨by rfl, ?_⟩) (by assumption) ?_
      rotate_left 1
      · intro W' hSw
        obtain ⟨hS1, hS2, hS3⟩ := hSw
        go_simp
        try with_reducible rfl
      try simp only [Act.put, List.setIfInBounds_toArray, List.set_cons_zero, List.set_cons_succ]
      refine wpAnyH_take (i := 5) (oi := ⟨_, _, _, _, _, _⟩) (v := ?_) rfl (by kernel_rfl) (by kernel_rfl) (by kernel_rfl) (fun _ _ _ h => h) (Or.inl ⟨by rfl, ?_⟩) (by assumption) ?_
      rotate_left 1
      · intro W' hSw
        obtain ⟨hS1, hS2, hS3⟩ := hSw
        go_simp
        try with_reducible rfl
      try simp only [Act.put, List.setIfInBounds_toArray, List.set_cons_zero, List.set_cons_succ]
      refine wpAnyH_take (i := 6) (oi := ⟨_, _, _, _, _, _⟩) (v := ?_) rfl (by kernel_rfl) (by kernel_rfl) (by kernel_rfl) (fun _ _ _ h => h) (Or.inl ⟨by rfl, ?_⟩) (by assumption) ?_
      rotate_left 1
      · intro W' hSw
        obtain ⟨hS1, hS2, hS3⟩ := hSw
        go_simp
        try with_reducible rfl
      try simp only [Act.put, List.setIfInBounds_toArray, List.set_cons_zero, List.set_cons_succ]
      refine wpAnyH_take (i := 7) (oi := ⟨_, _, _, _, _, _⟩) (v := ?_) rfl (by kernel_rfl) (by kernel_rfl) (by kernel_rfl) (fun _ _ _ h => h) (Or.inl ⟨by rfl, ?_⟩) (by assumption) ?_
      rotate_left 1
      · intro W' hSw
        obtain ⟨hS1, hS2, hS3⟩ := hSw
        go_simp
        try with_reducible rfl
      try simp only [Act.put, List.setIfInBounds_toArray, List.set_cons_zero, List.set_cons_succ]
      refine wpAnyH_take (i := 8) (oi := ⟨_, _, _, _, _, _⟩) (v := ?_) rfl (by kernel_rfl) (by kernel_rfl) (by kernel_rfl) (fun _ _ _ h => h) (Or.inl ⟨by rfl, ?_⟩) (by assumption) ?_
      rotate_left 1
      · intro W' hSw
        obtain ⟨hS1, hS2, hS3⟩ := hSw
        go_simp
        try with_reducible rfl
      try simp only [Act.put, List.setIfInBounds_toArray, List.set_cons_zero, List.set_cons_succ]
      refine wpAnyH_take (i := 9) (oi := ⟨_, _, _, _, _, _⟩) (v := ?_) rfl (by kernel_rfl) (by kernel_rfl) (by kernel_rfl) (fun _ _ _ h => h) (Or.inl ⟨by rfl, ?_⟩) (by assumption) ?_
      rotate_left 1
      · intro W' hSw
        obtain ⟨hS1, hS2, hS3⟩ := hSw
        go_simp
        try with_reducible rfl
      try simp only [Act.put, List.setIfInBounds_toArray, List.set_cons_zero, List.set_cons_succ]
      refine wpAnyH_ready (rs := [10]) (by kernel_rfl) (by simp) ?_
      refine AllReadyH.cons (o := ⟨_, _, _, _, _, _⟩) rfl (fun K' hK => ?_) AllReadyH.nil
      go_simp
      refine HDF.out.mono ?_
      rintro en V2 ⟨⟨v9, rfl⟩, hso⟩
      have HSO := hid_of hso
      obtain ⟨O', hf', hs'⟩ := hso
      have hN2 := (HN.out.ext' (extd V)).def hf' hs' hw1 HIG.out
      have hq1 : blk V2 be = some X := by rw [HXE.out]; exact hN2.ce
      have hq2 : blk V2 b1 = some x0.enc := by rw [← HXP.out]; exact hN2.c1
      have hq3 : blk V2 bP = some CP := (hN2.ext.blk (blk_lt HCP.out)).trans HCP.out
      clear hN2 hf' hs'
      dsimp only
      refine hK.out _ _ ⟨hq1, hq2, hq3⟩ (fun hHeld => ?_)
      clear hK K'
      try simp only [Act.put, List.setIfInBounds_toArray, List.set_cons_zero, List.set_cons_succ]
      refine wpAnyH_done (by kernel_rfl) ?_ _
      clear hHeld
      obtain ⟨O', hf', hs'⟩ := HSO.out
      have HI' : Hid (∃ O, NwS w O0 g b1 be bst p x (headsN p i) (fun _ => []) (3 * i + (j + 1)) O V2) := ⟨O', (HN.out.ext' (extd V)).def hf' hs' hw1 HIG.out⟩
      clear hf' hs' HSO HN HDF
      go_wp2_with fail
      refine ⟨rfl, rfl, ⟨rfl, rfl, rfl, j + 1, by omega, ?_, HI'⟩, ?_⟩
      · show Value.int .i64 _ = _
        go_num
      · show 3 - (intOf (Value.int .i64 _)).toNat < 3 - (intOf (f' 6)).toNat
        rw [H6.out]
        simp [intOf]; omega
    · obtain rfl : j = 3 := by omega
      have hn3 : 3 * i + 3 = 3 * (i + 1) := by omega
      rw [hn3] at hN
      have HN := hid_of hN
      clear HI hN hn3
      have hsuc : ∀ t, headsN p (i + 1) t = if (!basP p i && decide (strP p i = (t : Int))) then headsN p i t ++ [i] else headsN p i t := fun t => filter_range_succ _ i
      have HSUC := hid_of hsuc
      clear hsuc
      cases hb : basP p i with
      | true =>
        rw [hb] at hPb
        have HI' : Hid (∃ O, NwS w O0 g b1 be bst p x (headsN p (i + 1)) (fun _ => []) (3 * (i + 1)) O V) := by
          have : headsN p (i + 1) = headsN p i := by
            funext t
            rw [HSUC.out t, hb]; rfl
          rw [this]; exact ⟨O, HN.out⟩
        clear HN
        go_wp2_with fail
        refine ⟨rfl, rfl, ⟨rfl, rfl, i + 1, by omega, ?_, HI'⟩, ?_⟩
        · show Value.int .i64 _ = _
          go_num
        · show p.P.length - (intOf (Value.int .i64 _)).toNat < p.P.length - (intOf (f 5)).toNat
          rw [H5.out]
          simp [intOf]; omega
      | false =>
        rw [hb] at hPb
        obtain ⟨xq, hxq, hxs1, hxs2⟩ : ∃ s : Nat, strP p i = (s : Int) ∧ s < p.St ∧ True := by
          have := HOK.out.str _ (List.getElem_mem hin)
          have e9 : strP p i = p.P[i].stratum := by unfold strP; rw [List.getD_eq_getElem?_getD, List.getElem?_eq_getElem hin]; rfl
          exact ⟨(strP p i).toNat, by rw [e9]; omega, by rw [e9]; omega, trivial⟩
        rw [hxq] at hPs
        obtain ⟨Lv, hlv⟩ := HN.out.lv
        obtain ⟨lv, bl2, Cl, y1, y2, y3, y4, y5, y6, y7, y8⟩ := hlv.open hxs1
        rw [y2, y3] at x4
        obtain ⟨ha, hha⟩ : ∃ ha, ha = lv.heads := ⟨_, rfl⟩
        have hhd := hlv.hd xq lv y1
        have hlen9 : (headsN p i xq).length ≤ i := by
          have := List.length_filter_le (fun q => !basP p q && decide (strP p q = (xq : Int))) (List.range i)
          rw [List.length_range] at this
          exact this
        have hhn : lv.heads.len = (headsN p i xq).length := (hhd.rw encN_len).1.1.symm
        have s0 : (0 : Int) ≤ (xq : Int) := by omega
        have s1 : (xq : Int) < (p.St : Int) := by omega
        have s2 : ((xq : Int)).toNat = xq := by omega
        have l9 : xq * 2 + 1 < Cl.length := by omega
        have l8 : xq * 2 + 1 ≤ Cl.length := by omega
        have hlvd : LvIn w.heap.size O V.drew g p x.levels Lv (headsN p i) (fun _ => []) := hlv.keep (fun k hk _ => ⟨rfl, rfl⟩) (Sub.ext (core_ext (extd V)))
        obtain ⟨a', c', W2, hrun, hrow2, hfr⟩ := appL encN 1 8 97 41 Try.underlying97 info41 encN_len encN_one (by omega) (by omega) (W := V.drew) 97 i (hlvd.hd xq lv y1) (by have := HN.out.sz; exact this) (by omega) (encI (i : Int)).toArray rfl 1
        have hH1 : headsN p (i + 1) xq = headsN p i xq ++ [i] := by
          rw [HSUC.out xq, hb, hxq]; simp
        have hH2 : ∀ t, t ≠ xq → headsN p (i + 1) t = headsN p i t := fun t ht => by
          rw [HSUC.out t, hb, hxq, if_neg (by simp; omega)]
        have hbw : w.heap.size ≤ bl2 := (row_at hlv.row.1 bl2 (by rw [y2]; rfl)).1
        obtain ⟨z1, z2, z3⟩ := hlvd.set (lv' := ⟨⟨a', lv.heads.len + 1, c'⟩, lv.jobs⟩) (Hs' := headsN p (i + 1)) (Js' := fun _ => []) (v := .slice a' (lv.heads.len + 1) c') (o := 0) y1 (.inl rfl) hfr y2 (show blk V.drew bl2 = some Cl from y4) (by rw [hH1]; exact hrow2) (by
          obtain ⟨J, q1, q2, q3⟩ := hlvd.jb xq lv y1
          exact ⟨J, q1.fr hfr (lab_ne (by omega)), q2, fun i' y k hy hk => by (simp at hk)⟩) rfl (by omega) hH2 (fun _ _ => rfl)
        rw [Nat.add_zero] at z3
        have HI' : Hid (∃ O, NwS w O0 g b1 be bst p x (headsN p (i + 1)) (fun _ => []) (3 * (i + 1)) O (put W2 bl2 (splice Cl (xq * 2) [.slice a' (lv.heads.len + 1) c']))) := ⟨_, (HN.out.ext' (extd V)).lev ⟨1 + 2 * xq, by omega, rfl⟩ hfr y8 (blk_lt y4) hbw HIL.out _ z3⟩
        obtain ⟨hla, hhl⟩ : ∃ hla, hla = lv.heads.a := ⟨_, rfl⟩
        obtain ⟨hln, hhl2⟩ : ∃ hln, hln = lv.heads.len := ⟨_, rfl⟩
        obtain ⟨hlc, hhl3⟩ : ∃ hlc, hlc = lv.heads.cap := ⟨_, rfl⟩
        rw [← hhl, ← hhl2, ← hhl3] at y6
        rw [← hhl, ← hhl2, ← hhl3] at hrun
        rw [← hhl2] at HI'
        have mbl : ¬ bl2 = V.heap.size := by have := blk_lt y4; omega
        clear hlv hlvd hhd hrow2 hfr z3 hH1 hH2 hbw HN HSUC hha hhl hhl2 hhl3 hhn hlen9 y1 y2 y3 y7 y8 hX
        go_upto_region 14 with fail
        refine wp_region_held_drew (S := fun W' => blk W' be = some X ∧ blk W' b1 = some x0.enc ∧ blk W' bP = some CP) (by kernel_rfl) ⟨hce, hc1, hCP⟩ (fun hHeld => ?_)
        refine wpAnyH_take (i := 0) (oi := ⟨_, _, _, _, _, _⟩) (v := ?_) rfl (by kernel_rfl) (by kernel_rfl) (by kernel_rfl) (fun _ _ _ h => h) (Or.inl ⟨by rfl, ?_⟩) (by assumption) ?_
        rotate_left 1
        · intro W' hSw
          obtain ⟨hS1, hS2, hS3⟩ := hSw
          go_simp
          try with_reducible rfl
        try simp only [Act.put, List.setIfInBounds_toArray, List.set_cons_zero, List.set_cons_succ]
        refine wpAnyH_take (i := 1) (oi := ⟨_, _, _, _, _, _⟩) (v := ?_) rfl (by kernel_rfl) (by kernel_rfl) (by kernel_rfl) (fun _ _ _ h => h) (Or.inl ⟨by rfl, ?_⟩) (by assumption) ?_
        rotate_left 1
        · intro W' hSw
          obtain ⟨hS1, hS2, hS3⟩ := hSw
          go_simp
          try with_reducible rfl
        try simp only [Act.put, List.setIfInBounds_toArray, List.set_cons_zero, List.set_cons_succ]
        refine wpAnyH_take (i := 2) (oi := ⟨_, _, _, _, _, _⟩) (v := ?_) rfl (by kernel_rfl) (by kernel_rfl) (by kernel_rfl) (fun _ _ _ h => h) (Or.inl ⟨by rfl, ?_⟩) (by assumption) ?_
        rotate_left 1
        · intro W' hSw
          obtain ⟨hS1, hS2, hS3⟩ := hSw
          go_simp
          try with_reducible rfl
        try simp only [Act.put, List.setIfInBounds_toArray, List.set_cons_zero, List.set_cons_succ]
        refine wpAnyH_take (i := 3) (oi := ⟨_, _, _, _, _, _⟩) (v := ?_) rfl (by kernel_rfl) (by kernel_rfl) (by kernel_rfl) (fun _ _ _ h => h) (Or.inl ⟨by rfl, ?_⟩) (by assumption) ?_
        rotate_left 1
        · intro W' hSw
          obtain ⟨hS1, hS2, hS3⟩ := hSw
          go_simp
          try with_reducible rfl
        try simp only [Act.put, List.setIfInBounds_toArray, List.set_cons_zero, List.set_cons_succ]
        refine wpAnyH_take (i := 4) (oi := ⟨_, _, _, _, _, _⟩) (v := ?_) rfl (by kernel_rfl) (by kernel_rfl) (by kernel_rfl) (fun _ _ _ h => h) (Or.inl ⟨by rfl, ?_⟩) (by assumption) ?_
        rotate_left 1
        · intro W' hSw
          obtain ⟨hS1, hS2, hS3⟩ := hSw
          go_simp
          try with_reducible rfl
        try simp only [Act.put, List.setIfInBounds_toArray, List.set_cons_zero, List.set_cons_succ]
        refine wpAnyH_take (i := 5) (oi := ⟨_, _, _, _, _, _⟩) (v := ?_) rfl (by kernel_rfl) (by kernel_rfl) (by kernel_rfl) (fun _ _ _ h => h) (Or.inl ⟨by rfl, ?_⟩) (by assumption) ?_
        rotate_left 1
        · intro W' hSw
          obtain ⟨hS1, hS2, hS3⟩ := hSw
          go_simp
          try with_reducible rfl
        try simp only [Act.put, List.setIfInBounds_toArray, List.set_cons_zero, List.set_cons_succ]
        refine wpAnyH_take (i := 6) (oi := ⟨_, _, _, _, _, _⟩) (v := ?_) rfl (by kernel_rfl) (by kernel_rfl) (by kernel_rfl) (fun _ _ _ h => h) (Or.inl ⟨by rfl, ?_⟩) (by assumption) ?_
        rotate_left 1
        · intro W' hSw
          obtain ⟨hS1, hS2, hS3⟩ := hSw
          go_simp
          try with_reducible rfl
        try simp only [Act.put, List.setIfInBounds_toArray, List.set_cons_zero, List.set_cons_succ]
        refine wpAnyH_take (i := 7) (oi := ⟨_, _, _, _, _, _⟩) (v := ?_) rfl (by kernel_rfl) (by kernel_rfl) (by kernel_rfl) (fun _ _ _ h => h) (Or.inl ⟨by rfl, ?_⟩) (by assumption) ?_
        rotate_left 1
        · intro W' hSw
          obtain ⟨hS1, hS2, hS3⟩ := hSw
          go_simp
          try with_reducible rfl
        try simp only [Act.put, List.setIfInBounds_toArray, List.set_cons_zero, List.set_cons_succ]
        refine wpAnyH_take (i := 8) (oi := ⟨_, _, _, _, _, _⟩) (v := ?_) rfl (by kernel_rfl) (by kernel_rfl) (by kernel_rfl) (fun _ _ _ h => h) (Or.inl ⟨by rfl, ?_⟩) (by assumption) ?_
        rotate_left 1
        · intro W' hSw
          obtain ⟨hS1, hS2, hS3⟩ := hSw
          go_simp
          try with_reducible rfl
        try simp only [Act.put, List.setIfInBounds_toArray, List.set_cons_zero, List.set_cons_succ]
        refine wpAnyH_take (i := 9) (oi := ⟨_, _, _, _, _, _⟩) (v := ?_) rfl (by kernel_rfl) (by kernel_rfl) (by kernel_rfl) (fun _ _ _ h => h) (Or.inl ⟨by rfl, ?_⟩) (by assumption) ?_
        rotate_left 1
        · intro W' hSw
          obtain ⟨hS1, hS2, hS3⟩ := hSw
          go_simp
          try with_reducible rfl
        try simp only [Act.put, List.setIfInBounds_toArray, List.set_cons_zero, List.set_cons_succ]
        refine wpAnyH_take (i := 10) (oi := ⟨_, _, _, _, _, _⟩) (v := ?_) rfl (by kernel_rfl) (by kernel_rfl) (by kernel_rfl) (fun _ _ _ h => h) (Or.inl ⟨by rfl, ?_⟩) (by assumption) ?_
        rotate_left 1
        · intro W' hSw
          obtain ⟨hS1, hS2, hS3⟩ := hSw
          go_simp
          try with_reducible rfl
        try simp only [Act.put, List.setIfInBounds_toArray, List.set_cons_zero, List.set_cons_succ]
        refine wpAnyH_take (i := 11) (oi := ⟨_, _, _, _, _, _⟩) (v := ?_) rfl (by kernel_rfl) (by kernel_rfl) (by kernel_rfl) (fun _ _ _ h => h) (Or.inl ⟨by rfl, ?_⟩) (by assumption) ?_
        rotate_left 1
        · intro W' hSw
          obtain ⟨hS1, hS2, hS3⟩ := hSw
          go_simp
          try with_reducible rfl
        try simp only [Act.put, List.setIfInBounds_toArray, List.set_cons_zero, List.set_cons_succ]
        refine wpAnyH_done (by kernel_rfl) ?_ _
        clear hHeld
        go_wp2_with (at_builtin; refine wpList_append_run rfl _ _ 97 rfl _ _ _ _ rfl rfl hrun ?_)
        refine ⟨rfl, rfl, ⟨rfl, rfl, i + 1, by omega, ?_, HI'⟩, ?_⟩
        · show Value.int .i64 _ = _
          go_num
        · show p.P.length - (intOf (Value.int .i64 _)).toNat < p.P.length - (intOf (f 5)).toNat
          rw [H5.out]
          simp [intOf]; omega
  · obtain rfl : i = p.P.length := by omega
    have hin' : ¬ ((p.P.length : Int) < (p.P.length : Int)) := by omega
    have HI3 : Hid (∃ O, NwS w O0 g b1 be bst p x (headsN p p.P.length) (jobsN p 0) (3 * p.P.length) O V) := ⟨O, hN⟩
    clear HI hN
    go_upto_region 17 with fail
    clear hc1
    refine wp_loop_f 119 (n3I w O0 g b1 be bst p x) (fun f _ => p.R.length - (intOf (f 8)).toNat) rfl ⟨rfl, rfl, 0, by omega, rfl, HI3⟩ ?_
    clear HI3
    intro f' V3 hrel
    obtain ⟨f1, f4, k, hk, f8, HI⟩ := hrel
    have H8 := hid_of f8
    rw [frame119, f1, f4, f8]
    clear f1 f4 f8
    obtain ⟨O, hN⟩ := HI.out
    have hc1 : blk V3 b1 = some x0.enc := by rw [← HXP.out]; exact hN.c1
    by_cases hkR : k < p.R.length
    · have hkR' : (k : Int) < (p.R.length : Int) := by omega
      obtain ⟨r, hr⟩ : ∃ r, p.R[k]? = some r := ⟨_, List.getElem?_eq_getElem hkR⟩
      obtain ⟨-, -, -, -, ⟨bR, hAR⟩, -⟩ := HPW.out.ext hN.ext
      obtain ⟨r', CR, v1, v2, v3, v4, v5⟩ := hAR.get hkR
      obtain rfl : r' = r := Option.some.inj (v1.symm.trans hr)
      rw [Nat.zero_add] at v4 v5
      have hkl : (k + 1) * 10 ≤ p.R.length * 10 := Nat.mul_le_mul_right _ hkR
      obtain ⟨hh, xh, u1, u2, -, -⟩ := HOK.out.head k r' hr
      have hhP : hh < p.P.length := (List.getElem?_eq_some_iff.1 u2).1
      have hrp : nth CR (k * 10) = some (.int .i64 (hh : Int)) := by
        have := nth_in (j := 0) v5 (GRule.head_pred_get r') (by omega)
        rw [u1] at this
        exact this
      obtain ⟨bP, CP, hPa, hCP, hPl, -, hPs, -⟩ := pred_all (HPW.out.ext hN.ext) hhP
      have hst : strP p (hdP p k).pred.toNat = strP p hh := by rw [hdP_some hr, u1, Int.toNat_natCast]
      obtain ⟨xq, hxq, hxs1⟩ : ∃ s : Nat, strP p hh = (s : Int) ∧ s < p.St := by
        have := HOK.out.str _ (List.getElem_mem hhP)
        have e9 : strP p hh = p.P[hh].stratum := by unfold strP; rw [List.getD_eq_getElem?_getD, List.getElem?_eq_getElem hhP]; rfl
        exact ⟨(strP p hh).toNat, by rw [e9]; omega, by rw [e9]; omega⟩
      rw [hxq] at hPs hst
      rw [hPa] at hx0
      rw [v2] at hx1'
      have hce := hN.ce
      obtain ⟨X, hX⟩ : ∃ X, X = x.enc := ⟨_, rfl⟩
      rw [← hX] at hce
      obtain ⟨xl, -, -, -, -, x4, -, -, -, -, -, -, -, -⟩ := eng_cells hX
      obtain ⟨Lv, hlv⟩ := hN.lv
      obtain ⟨lv, bl2, Cl, y1, y2, y3, y4, y5, y6, y7, y8⟩ := hlv.open hxs1
      rw [y2, y3] at x4
      have hmj := makeJob_x V3.drew.drew b1 p ⟨x0.preds.a, x0.preds.cap, x0.rules.a, x0.rules.cap, by
        have h1 := HPRG.out.1
        have h2 := HPRG.out.2.1
        have h3 := HPRG.out.2.2.1
        rw [← h1, ← h2, ← h3]; exact hc1, by
        have h1 := HPRG.out.1
        have h2 := HPRG.out.2.1
        have h3 := HPRG.out.2.2.1
        have := HPW.out.ext (hN.ext.trans ((extd V3).trans (extd V3.drew)))
        rw [← h1, ← h2, ← h3]; exact this⟩ HOK.out k r' hr xq
      have HMJ := hid_of hmj
      have HJB : Hid (∀ (V2 : World) (y : Job), V3.drew.drew.Extends V2 → JobC (newc V3.drew.drew.heap.size V2) y p xq k → ∃ a' c' W2, (Builtin.append_ #[98, 98] 98 #[.slice lv.jobs.a lv.jobs.len lv.jobs.cap, .slice (some ⟨V2.heap.size, 0, none⟩) 1 1]).run Try.prog (V2.alloc (.cells y.enc.toArray 106)) = .ok (.slice a' (lv.jobs.len + 1) c') W2 ∧ blk W2 bl2 = some Cl ∧ free W2 bl2 = true ∧ blk W2 be = some x.enc ∧ be ≠ bl2 ∧ ∃ O', NwS w O0 g b1 be bst p x (headsN p p.P.length) (jobsN p (k + 1)) (3 * p.P.length) O' (put W2 bl2 (splice Cl (xq * 2 + 1) [.slice a' (lv.jobs.len + 1) c']))) := fun V2 y hx2 hy => ((hN.ext' (extd V3)).ext' (extd V3.drew)).job HIL.out (hlv.keep (V' := V3.drew.drew) (fun k hk _ => ⟨rfl, rfl⟩) (Sub.ext (core_ext ((extd V3).trans (extd V3.drew))))) y1 y2 (show blk V3.drew.drew bl2 = some Cl from y4) y8 hx2 hy hst (by omega)
      have HXE := hid_of hX
      have k0 : (0 : Int) ≤ (k : Int) := by omega
      have k2 : ((k : Int)).toNat = k := by omega
      have w0 : (0 : Int) ≤ (hh : Int) := by omega
      have w1 : (hh : Int) < (p.P.length : Int) := by omega
      have w2 : ((hh : Int)).toNat = hh := by omega
      have s0 : (0 : Int) ≤ (xq : Int) := by omega
      have s1 : (xq : Int) < (p.St : Int) := by omega
      have s2 : ((xq : Int)).toNat = xq := by omega
      have l9 : xq * 2 + 1 < Cl.length := by omega
      have l8 : xq * 2 + 1 + 1 ≤ Cl.length := by omega
      have l5 : k * 10 < CR.length := by omega
      have l6 : hh * 3 + 2 < CP.length := by omega
      obtain ⟨ja, hja⟩ : ∃ ja, ja = lv.jobs.a := ⟨_, rfl⟩
      obtain ⟨jn, hjn⟩ : ∃ jn, jn = lv.jobs.len := ⟨_, rfl⟩
      obtain ⟨jc, hjc⟩ : ∃ jc, jc = lv.jobs.cap := ⟨_, rfl⟩
      rw [← hja, ← hjn, ← hjc] at y7 HJB
      clear HI hN hmj hlv hAR v1 v2 v4 v5 hkl u1 u2 hr y1 y2 y3 y6 y8 hst hX hja hjn hjc hPa hxq
      go_upto_region 19 with fail
      refine wp_region_held_drew (S := fun W' => blk W' b1 = some x0.enc ∧ blk W' bR = some CR ∧ blk W' bP = some CP) (by kernel_rfl) ⟨hc1, v3, hCP⟩ (fun hHeld => ?_)
      refine wpAnyH_take (i := 0) (oi := ⟨_, _, _, _, _, _⟩) (v := ?_) rfl (by kernel_rfl) (by kernel_rfl) (by kernel_rfl) (fun _ _ _ h => h) (Or.inl ⟨by rfl, ?_⟩) (by assumption) ?_
      rotate_left 1
      · intro W' hSw
        obtain ⟨hS1, hS2, hS3⟩ := hSw
        go_simp
        try with_reducible rfl
      try simp only [Act.put, List.setIfInBounds_toArray, List.set_cons_zero, List.set_cons_succ]
      refine wpAnyH_take (i := 1) (oi := ⟨_, _, _, _, _, _⟩) (v := ?_) rfl (by kernel_rfl) (by kernel_rfl) (by kernel_rfl) (fun _ _ _ h => h) (Or.inl ⟨by rfl, ?_⟩) (by assumption) ?_
      rotate_left 1
      · intro W' hSw
        obtain ⟨hS1, hS2, hS3⟩ := hSw
        go_simp
        try with_reducible rfl
      try simp only [Act.put, List.setIfInBounds_toArray, List.set_cons_zero, List.set_cons_succ]
      refine wpAnyH_take (i := 2) (oi := ⟨_, _, _, _, _, _⟩) (v := ?_) rfl (by kernel_rfl) (by kernel_rfl) (by kernel_rfl) (fun _ _ _ h => h) (Or.inl ⟨by rfl, ?_⟩) (by assumption) ?_
      rotate_left 1
      · intro W' hSw
        obtain ⟨hS1, hS2, hS3⟩ := hSw
        go_simp
        try with_reducible rfl
      try simp only [Act.put, List.setIfInBounds_toArray, List.set_cons_zero, List.set_cons_succ]
      refine wpAnyH_take (i := 3) (oi := ⟨_, _, _, _, _, _⟩) (v := ?_) rfl (by kernel_rfl) (by kernel_rfl) (by kernel_rfl) (fun _ _ _ h => h) (Or.inl ⟨by rfl, ?_⟩) (by assumption) ?_
      rotate_left 1
      · intro W' hSw
        obtain ⟨hS1, hS2, hS3⟩ := hSw
        go_simp
        try with_reducible rfl
      try simp only [Act.put, List.setIfInBounds_toArray, List.set_cons_zero, List.set_cons_succ]
      refine wpAnyH_take (i := 4) (oi := ⟨_, _, _, _, _, _⟩) (v := ?_) rfl (by kernel_rfl) (by kernel_rfl) (by kernel_rfl) (fun _ _ _ h => h) (Or.inl ⟨by rfl, ?_⟩) (by assumption) ?_
      rotate_left 1
      · intro W' hSw
        obtain ⟨hS1, hS2, hS3⟩ := hSw
        go_simp
        try with_reducible rfl
      try simp only [Act.put, List.setIfInBounds_toArray, List.set_cons_zero, List.set_cons_succ]
      refine wpAnyH_take (i := 5) (oi := ⟨_, _, _, _, _, _⟩) (v := ?_) rfl (by kernel_rfl) (by kernel_rfl) (by kernel_rfl) (fun _ _ _ h => h) (Or.inl ⟨by rfl, ?_⟩) (by assumption) ?_
      rotate_left 1
      · intro W' hSw
        obtain ⟨hS1, hS2, hS3⟩ := hSw
        go_simp
        try with_reducible rfl
      try simp only [Act.put, List.setIfInBounds_toArray, List.set_cons_zero, List.set_cons_succ]
      refine wpAnyH_take (i := 6) (oi := ⟨_, _, _, _, _, _⟩) (v := ?_) rfl (by kernel_rfl) (by kernel_rfl) (by kernel_rfl) (fun _ _ _ h => h) (Or.inl ⟨by rfl, ?_⟩) (by assumption) ?_
      rotate_left 1
      · intro W' hSw
        obtain ⟨hS1, hS2, hS3⟩ := hSw
        go_simp
        try with_reducible rfl
      try simp only [Act.put, List.setIfInBounds_toArray, List.set_cons_zero, List.set_cons_succ]
      refine wpAnyH_take (i := 7) (oi := ⟨_, _, _, _, _, _⟩) (v := ?_) rfl (by kernel_rfl) (by kernel_rfl) (by kernel_rfl) (fun _ _ _ h => h) (Or.inl ⟨by rfl, ?_⟩) (by assumption) ?_
      rotate_left 1
      · intro W' hSw
        obtain ⟨hS1, hS2, hS3⟩ := hSw
        go_simp
        try with_reducible rfl
      try simp only [Act.put, List.setIfInBounds_toArray, List.set_cons_zero, List.set_cons_succ]
      refine wpAnyH_take (i := 8) (oi := ⟨_, _, _, _, _, _⟩) (v := ?_) rfl (by kernel_rfl) (by kernel_rfl) (by kernel_rfl) (fun _ _ _ h => h) (Or.inl ⟨by rfl, ?_⟩) (by assumption) ?_
      rotate_left 1
      · intro W' hSw
        obtain ⟨hS1, hS2, hS3⟩ := hSw
        go_simp
        try with_reducible rfl
      try simp only [Act.put, List.setIfInBounds_toArray, List.set_cons_zero, List.set_cons_succ]
      refine wpAnyH_take (i := 9) (oi := ⟨_, _, _, _, _, _⟩) (v := ?_) rfl (by kernel_rfl) (by kernel_rfl) (by kernel_rfl) (fun _ _ _ h => h) (Or.inl ⟨by rfl, ?_⟩) (by assumption) ?_
      rotate_left 1
      · intro W' hSw
        obtain ⟨hS1, hS2, hS3⟩ := hSw
        go_simp
        try with_reducible rfl
      try simp only [Act.put, List.setIfInBounds_toArray, List.set_cons_zero, List.set_cons_succ]
      refine wpAnyH_take (i := 10) (oi := ⟨_, _, _, _, _, _⟩) (v := ?_) rfl (by kernel_rfl) (by kernel_rfl) (by kernel_rfl) (fun _ _ _ h => h) (Or.inl ⟨by rfl, ?_⟩) (by assumption) ?_
      rotate_left 1
      · intro W' hSw
        obtain ⟨hS1, hS2, hS3⟩ := hSw
        go_simp
        try with_reducible rfl
      try simp only [Act.put, List.setIfInBounds_toArray, List.set_cons_zero, List.set_cons_succ]
      refine wpAnyH_take (i := 11) (oi := ⟨_, _, _, _, _, _⟩) (v := ?_) rfl (by kernel_rfl) (by kernel_rfl) (by kernel_rfl) (fun _ _ _ h => h) (Or.inl ⟨by rfl, ?_⟩) (by assumption) ?_
      rotate_left 1
      · intro W' hSw
        obtain ⟨hS1, hS2, hS3⟩ := hSw
        go_simp
        try with_reducible rfl
      try simp only [Act.put, List.setIfInBounds_toArray, List.set_cons_zero, List.set_cons_succ]
      refine wpAnyH_take (i := 12) (oi := ⟨_, _, _, _, _, _⟩) (v := ?_) rfl (by kernel_rfl) (by kernel_rfl) (by kernel_rfl) (fun _ _ _ h => h) (Or.inl ⟨by rfl, ?_⟩) (by assumption) ?_
      rotate_left 1
      · intro W' hSw
        obtain ⟨hS1, hS2, hS3⟩ := hSw
        go_simp
        try with_reducible rfl
      try simp only [Act.put, List.setIfInBounds_toArray, List.set_cons_zero, List.set_cons_succ]
      refine wpAnyH_done (by kernel_rfl) ?_ _
      clear hHeld
      go_upto_region 20 with fail
      refine wp_region_held_drew (S := fun W' => blk W' be = some X) (by kernel_rfl) hce (fun hHeld => ?_)
      refine wpAnyH_take (i := 0) (oi := ⟨_, _, _, _, _, _⟩) (v := ?_) rfl (by kernel_rfl) (by kernel_rfl) (by kernel_rfl) (fun _ _ _ h => h) (Or.inl ⟨by rfl, ?_⟩) (by assumption) ?_
      rotate_left 1
      · intro W' hSw
        go_simp
        try with_reducible rfl
      try simp only [Act.put, List.setIfInBounds_toArray, List.set_cons_zero, List.set_cons_succ]
      refine wpAnyH_take (i := 1) (oi := ⟨_, _, _, _, _, _⟩) (v := ?_) rfl (by kernel_rfl) (by kernel_rfl) (by kernel_rfl) (fun _ _ _ h => h) (Or.inl ⟨by rfl, ?_⟩) (by assumption) ?_
      rotate_left 1
      · intro W' hSw
        go_simp
        try with_reducible rfl
      try simp only [Act.put, List.setIfInBounds_toArray, List.set_cons_zero, List.set_cons_succ]
      refine wpAnyH_take (i := 2) (oi := ⟨_, _, _, _, _, _⟩) (v := ?_) rfl (by kernel_rfl) (by kernel_rfl) (by kernel_rfl) (fun _ _ _ h => h) (Or.inl ⟨by rfl, ?_⟩) (by assumption) ?_
      rotate_left 1
      · intro W' hSw
        go_simp
        try with_reducible rfl
      try simp only [Act.put, List.setIfInBounds_toArray, List.set_cons_zero, List.set_cons_succ]
      refine wpAnyH_take (i := 3) (oi := ⟨_, _, _, _, _, _⟩) (v := ?_) rfl (by kernel_rfl) (by kernel_rfl) (by kernel_rfl) (fun _ _ _ h => h) (Or.inl ⟨by rfl, ?_⟩) (by assumption) ?_
      rotate_left 1
      · intro W' hSw
        go_simp
        try with_reducible rfl
      try simp only [Act.put, List.setIfInBounds_toArray, List.set_cons_zero, List.set_cons_succ]
      refine wpAnyH_take (i := 4) (oi := ⟨_, _, _, _, _, _⟩) (v := ?_) rfl (by kernel_rfl) (by kernel_rfl) (by kernel_rfl) (fun _ _ _ h => h) (Or.inl ⟨by rfl, ?_⟩) (by assumption) ?_
      rotate_left 1
      · intro W' hSw
        go_simp
        try with_reducible rfl
      try simp only [Act.put, List.setIfInBounds_toArray, List.set_cons_zero, List.set_cons_succ]
      refine wpAnyH_take (i := 5) (oi := ⟨_, _, _, _, _, _⟩) (v := ?_) rfl (by kernel_rfl) (by kernel_rfl) (by kernel_rfl) (fun _ _ _ h => h) (Or.inl ⟨by rfl, ?_⟩) (by assumption) ?_
      rotate_left 1
      · intro W' hSw
        go_simp
        try with_reducible rfl
      try simp only [Act.put, List.setIfInBounds_toArray, List.set_cons_zero, List.set_cons_succ]
      refine wpAnyH_take (i := 6) (oi := ⟨_, _, _, _, _, _⟩) (v := ?_) rfl (by kernel_rfl) (by kernel_rfl) (by kernel_rfl) (fun _ _ _ h => h) (Or.inl ⟨by rfl, ?_⟩) (by assumption) ?_
      rotate_left 1
      · intro W' hSw
        go_simp
        try with_reducible rfl
      try simp only [Act.put, List.setIfInBounds_toArray, List.set_cons_zero, List.set_cons_succ]
      refine wpAnyH_take (i := 7) (oi := ⟨_, _, _, _, _, _⟩) (v := ?_) rfl (by kernel_rfl) (by kernel_rfl) (by kernel_rfl) (fun _ _ _ h => h) (Or.inl ⟨by rfl, ?_⟩) (by assumption) ?_
      rotate_left 1
      · intro W' hSw
        go_simp
        try with_reducible rfl
      try simp only [Act.put, List.setIfInBounds_toArray, List.set_cons_zero, List.set_cons_succ]
      refine wpAnyH_take (i := 8) (oi := ⟨_, _, _, _, _, _⟩) (v := ?_) rfl (by kernel_rfl) (by kernel_rfl) (by kernel_rfl) (fun _ _ _ h => h) (Or.inl ⟨by rfl, ?_⟩) (by assumption) ?_
      rotate_left 1
      · intro W' hSw
        go_simp
        try with_reducible rfl
      try simp only [Act.put, List.setIfInBounds_toArray, List.set_cons_zero, List.set_cons_succ]
      refine wpAnyH_take (i := 9) (oi := ⟨_, _, _, _, _, _⟩) (v := ?_) rfl (by kernel_rfl) (by kernel_rfl) (by kernel_rfl) (fun _ _ _ h => h) (Or.inl ⟨by rfl, ?_⟩) (by assumption) ?_
      rotate_left 1
      · intro W' hSw
        go_simp
        try with_reducible rfl
      try simp only [Act.put, List.setIfInBounds_toArray, List.set_cons_zero, List.set_cons_succ]
      refine wpAnyH_take (i := 10) (oi := ⟨_, _, _, _, _, _⟩) (v := ?_) rfl (by kernel_rfl) (by kernel_rfl) (by kernel_rfl) (fun _ _ _ h => h) (Or.inl ⟨by rfl, ?_⟩) (by assumption) ?_
      rotate_left 1
      · intro W' hSw
        go_simp
        try with_reducible rfl
      try simp only [Act.put, List.setIfInBounds_toArray, List.set_cons_zero, List.set_cons_succ]
      refine wpAnyH_take (i := 11) (oi := ⟨_, _, _, _, _, _⟩) (v := ?_) rfl (by kernel_rfl) (by kernel_rfl) (by kernel_rfl) (fun _ _ _ h => h) (Or.inl ⟨by rfl, ?_⟩) (by assumption) ?_
      rotate_left 1
      · intro W' hSw
        go_simp
        try with_reducible rfl
      try simp only [Act.put, List.setIfInBounds_toArray, List.set_cons_zero, List.set_cons_succ]
      refine wpAnyH_take (i := 13) (oi := ⟨_, _, _, _, _, _⟩) (v := ?_) rfl (by kernel_rfl) (by kernel_rfl) (by kernel_rfl) (fun _ _ _ h => h) (Or.inl ⟨by rfl, ?_⟩) (by assumption) ?_
      rotate_left 1
      · intro W' hSw
        go_simp
        try with_reducible rfl
      try simp only [Act.put, List.setIfInBounds_toArray, List.set_cons_zero, List.set_cons_succ]
      refine wpAnyH_take (i := 14) (oi := ⟨_, _, _, _, _, _⟩) (v := ?_) rfl (by kernel_rfl) (by kernel_rfl) (by kernel_rfl) (fun _ _ _ h => h) (Or.inl ⟨by rfl, ?_⟩) (by assumption) ?_
      rotate_left 1
      · intro W' hSw
        go_simp
        try with_reducible rfl
      try simp only [Act.put, List.setIfInBounds_toArray, List.set_cons_zero, List.set_cons_succ]
      refine wpAnyH_ready (rs := [12, 15]) (by kernel_rfl) (by simp) ?_
      refine AllReadyH.cons (o := ⟨_, _, _, _, _, _⟩) rfl (fun K' hK => ?_) (AllReadyH.cons (o := ⟨_, _, _, _, _, _⟩) rfl (fun K' hK => ?_) AllReadyH.nil)
      · go_simp
        refine hK.out _ _ hce (fun hHeld => ?_)
        clear hK K'
        try simp only [Act.put, List.setIfInBounds_toArray, List.set_cons_zero, List.set_cons_succ]
        refine wpAnyH_ready (rs := [15]) (by kernel_rfl) (by simp) ?_
        refine AllReadyH.cons (o := ⟨_, _, _, _, _, _⟩) rfl (fun K' hK => ?_) AllReadyH.nil
        go_simp
        refine HMJ.out.mono ?_
        rintro en V2 ⟨y, rfl, hx2, hjcc⟩
        obtain ⟨a', c', W2, hrun, t1, t2, t3, t4, t5⟩ := HJB.out V2 y hx2 hjcc
        have HI' := hid_of t5
        have hce2 : blk V2 be = some X := (hx2.blk (blk_lt hce)).trans hce
        have hcl2 : blk V2 bl2 = some Cl := (hx2.blk (blk_lt y4)).trans y4
        have mbe : ¬ be = V2.heap.size := by have := blk_lt hce2; omega
        have mbl : ¬ bl2 = V2.heap.size := by have := blk_lt hcl2; omega
        rw [← HXE.out] at t3
        clear hx2 hjcc t5
        dsimp only
        refine hK.out _ _ hce2 (fun hHeld => ?_)
        clear hK K'
        try simp only [Act.put, List.setIfInBounds_toArray, List.set_cons_zero, List.set_cons_succ]
        refine wpAnyH_ready (rs := [16]) (by kernel_rfl) (by simp) ?_
        refine AllReadyH.cons (o := ⟨_, _, _, _, _, _⟩) rfl (fun K' hK => ?_) AllReadyH.nil
        go_simp
        refine hK.out _ _ ((blk_alloc _ _ _ _).trans ((if_neg mbe).trans hce2)) (fun hHeld => ?_)
        clear hK K'
        try simp only [Act.put, List.setIfInBounds_toArray, List.set_cons_zero, List.set_cons_succ]
        refine wpAnyH_ready (rs := [17]) (by kernel_rfl) (by simp) ?_
        refine AllReadyH.cons (o := ⟨_, _, _, _, _, _⟩) rfl (fun K' hK => ?_) AllReadyH.nil
        refine wp_append_run _ _ 98 rfl _ _ _ _ rfl rfl hrun ?_
        refine hK.out _ _ t3 (fun hHeld => ?_)
        clear hK K'
        try simp only [Act.put, List.setIfInBounds_toArray, List.set_cons_zero, List.set_cons_succ]
        refine wpAnyH_take (i := 18) (oi := ⟨_, _, _, _, _, _⟩) (v := ?_) rfl (by kernel_rfl) (by kernel_rfl) (by kernel_rfl) (fun _ _ _ h => h) (Or.inl ⟨by rfl, ?_⟩) (by assumption) ?_
        rotate_left 1
        · intro W' hSw
          go_simp
          try with_reducible rfl
        try simp only [Act.put, List.setIfInBounds_toArray, List.set_cons_zero, List.set_cons_succ]
        refine wpAnyH_take (i := 19) (oi := ⟨_, _, _, _, _, _⟩) (v := ?_) rfl (by kernel_rfl) (by kernel_rfl) (by kernel_rfl) (fun _ _ _ h => h) (Or.inl ⟨by rfl, ?_⟩) (by assumption) ?_
        rotate_left 1
        · intro W' hSw
          go_simp
          try with_reducible rfl
        try simp only [Act.put, List.setIfInBounds_toArray, List.set_cons_zero, List.set_cons_succ]
        refine wpAnyH_ready (rs := [20]) (by kernel_rfl) (by simp) ?_
        refine AllReadyH.cons (o := ⟨_, _, _, _, _, _⟩) rfl (fun K' hK => ?_) AllReadyH.nil
        go_simp
        refine hK.out _ _ (by rw [blk_put, if_neg t4]; exact t3) (fun hHeld => ?_)
        clear hK K'
        try simp only [Act.put, List.setIfInBounds_toArray, List.set_cons_zero, List.set_cons_succ]
        refine wpAnyH_done (by kernel_rfl) ?_ _
        clear hHeld HMJ HJB hrun
        go_wp2_with fail
        refine ⟨rfl, rfl, ⟨rfl, rfl, k + 1, by omega, ?_, HI'⟩, ?_⟩
        · show Value.int .i64 _ = _
          go_num
        · show p.R.length - (intOf (Value.int .i64 _)).toNat < p.R.length - (intOf (f' 8)).toNat
          rw [H8.out]
          simp [intOf]; omega
      · go_simp
        refine HMJ.out.mono ?_
        rintro en V2 ⟨y, rfl, hx2, hjcc⟩
        obtain ⟨a', c', W2, hrun, t1, t2, t3, t4, t5⟩ := HJB.out V2 y hx2 hjcc
        have HI' := hid_of t5
        have hce2 : blk V2 be = some X := (hx2.blk (blk_lt hce)).trans hce
        have hcl2 : blk V2 bl2 = some Cl := (hx2.blk (blk_lt y4)).trans y4
        have mbe : ¬ be = V2.heap.size := by have := blk_lt hce2; omega
        have mbl : ¬ bl2 = V2.heap.size := by have := blk_lt hcl2; omega
        rw [← HXE.out] at t3
        clear hx2 hjcc t5
        dsimp only
        refine hK.out _ _ hce2 (fun hHeld => ?_)
        clear hK K'
        try simp only [Act.put, List.setIfInBounds_toArray, List.set_cons_zero, List.set_cons_succ]
        refine wpAnyH_ready (rs := [12, 16]) (by kernel_rfl) (by simp) ?_
        refine AllReadyH.cons (o := ⟨_, _, _, _, _, _⟩) rfl (fun K' hK => ?_) (AllReadyH.cons (o := ⟨_, _, _, _, _, _⟩) rfl (fun K' hK => ?_) AllReadyH.nil)
        · go_simp
          refine hK.out _ _ hce2 (fun hHeld => ?_)
          clear hK K'
          try simp only [Act.put, List.setIfInBounds_toArray, List.set_cons_zero, List.set_cons_succ]
          refine wpAnyH_ready (rs := [16]) (by kernel_rfl) (by simp) ?_
          refine AllReadyH.cons (o := ⟨_, _, _, _, _, _⟩) rfl (fun K' hK => ?_) AllReadyH.nil
          go_simp
          refine hK.out _ _ ((blk_alloc _ _ _ _).trans ((if_neg mbe).trans hce2)) (fun hHeld => ?_)
          clear hK K'
          try simp only [Act.put, List.setIfInBounds_toArray, List.set_cons_zero, List.set_cons_succ]
          refine wpAnyH_ready (rs := [17]) (by kernel_rfl) (by simp) ?_
          refine AllReadyH.cons (o := ⟨_, _, _, _, _, _⟩) rfl (fun K' hK => ?_) AllReadyH.nil
          refine wp_append_run _ _ 98 rfl _ _ _ _ rfl rfl hrun ?_
          refine hK.out _ _ t3 (fun hHeld => ?_)
          clear hK K'
          try simp only [Act.put, List.setIfInBounds_toArray, List.set_cons_zero, List.set_cons_succ]
          refine wpAnyH_take (i := 18) (oi := ⟨_, _, _, _, _, _⟩) (v := ?_) rfl (by kernel_rfl) (by kernel_rfl) (by kernel_rfl) (fun _ _ _ h => h) (Or.inl ⟨by rfl, ?_⟩) (by assumption) ?_
          rotate_left 1
          · intro W' hSw
            go_simp
            try with_reducible rfl
          try simp only [Act.put, List.setIfInBounds_toArray, List.set_cons_zero, List.set_cons_succ]
          refine wpAnyH_take (i := 19) (oi := ⟨_, _, _, _, _, _⟩) (v := ?_) rfl (by kernel_rfl) (by kernel_rfl) (by kernel_rfl) (fun _ _ _ h => h) (Or.inl ⟨by rfl, ?_⟩) (by assumption) ?_
          rotate_left 1
          · intro W' hSw
            go_simp
            try with_reducible rfl
          try simp only [Act.put, List.setIfInBounds_toArray, List.set_cons_zero, List.set_cons_succ]
          refine wpAnyH_ready (rs := [20]) (by kernel_rfl) (by simp) ?_
          refine AllReadyH.cons (o := ⟨_, _, _, _, _, _⟩) rfl (fun K' hK => ?_) AllReadyH.nil
          go_simp
          refine hK.out _ _ (by rw [blk_put, if_neg t4]; exact t3) (fun hHeld => ?_)
          clear hK K'
          try simp only [Act.put, List.setIfInBounds_toArray, List.set_cons_zero, List.set_cons_succ]
          refine wpAnyH_done (by kernel_rfl) ?_ _
          clear hHeld HMJ HJB hrun
          go_wp2_with fail
          refine ⟨rfl, rfl, ⟨rfl, rfl, k + 1, by omega, ?_, HI'⟩, ?_⟩
          · show Value.int .i64 _ = _
            go_num
          · show p.R.length - (intOf (Value.int .i64 _)).toNat < p.R.length - (intOf (f' 8)).toNat
            rw [H8.out]
            simp [intOf]; omega
        · go_simp
          refine hK.out _ _ ((blk_alloc _ _ _ _).trans ((if_neg mbe).trans hce2)) (fun hHeld => ?_)
          clear hK K'
          try simp only [Act.put, List.setIfInBounds_toArray, List.set_cons_zero, List.set_cons_succ]
          refine wpAnyH_ready (rs := [12]) (by kernel_rfl) (by simp) ?_
          refine AllReadyH.cons (o := ⟨_, _, _, _, _, _⟩) rfl (fun K' hK => ?_) AllReadyH.nil
          go_simp
          refine hK.out _ _ ((blk_alloc _ _ _ _).trans ((if_neg mbe).trans hce2)) (fun hHeld => ?_)
          clear hK K'
          try simp only [Act.put, List.setIfInBounds_toArray, List.set_cons_zero, List.set_cons_succ]
          refine wpAnyH_ready (rs := [17]) (by kernel_rfl) (by simp) ?_
          refine AllReadyH.cons (o := ⟨_, _, _, _, _, _⟩) rfl (fun K' hK => ?_) AllReadyH.nil
          refine wp_append_run _ _ 98 rfl _ _ _ _ rfl rfl hrun ?_
          refine hK.out _ _ t3 (fun hHeld => ?_)
          clear hK K'
          try simp only [Act.put, List.setIfInBounds_toArray, List.set_cons_zero, List.set_cons_succ]
          refine wpAnyH_take (i := 18) (oi := ⟨_, _, _, _, _, _⟩) (v := ?_) rfl (by kernel_rfl) (by kernel_rfl) (by kernel_rfl) (fun _ _ _ h => h) (Or.inl ⟨by rfl, ?_⟩) (by assumption) ?_
          rotate_left 1
          · intro W' hSw
            go_simp
            try with_reducible rfl
          try simp only [Act.put, List.setIfInBounds_toArray, List.set_cons_zero, List.set_cons_succ]
          refine wpAnyH_take (i := 19) (oi := ⟨_, _, _, _, _, _⟩) (v := ?_) rfl (by kernel_rfl) (by kernel_rfl) (by kernel_rfl) (fun _ _ _ h => h) (Or.inl ⟨by rfl, ?_⟩) (by assumption) ?_
          rotate_left 1
          · intro W' hSw
            go_simp
            try with_reducible rfl
          try simp only [Act.put, List.setIfInBounds_toArray, List.set_cons_zero, List.set_cons_succ]
          refine wpAnyH_ready (rs := [20]) (by kernel_rfl) (by simp) ?_
          refine AllReadyH.cons (o := ⟨_, _, _, _, _, _⟩) rfl (fun K' hK => ?_) AllReadyH.nil
          go_simp
          refine hK.out _ _ (by rw [blk_put, if_neg t4]; exact t3) (fun hHeld => ?_)
          clear hK K'
          try simp only [Act.put, List.setIfInBounds_toArray, List.set_cons_zero, List.set_cons_succ]
          refine wpAnyH_done (by kernel_rfl) ?_ _
          clear hHeld HMJ HJB hrun
          go_wp2_with fail
          refine ⟨rfl, rfl, ⟨rfl, rfl, k + 1, by omega, ?_, HI'⟩, ?_⟩
          · show Value.int .i64 _ = _
            go_num
          · show p.R.length - (intOf (Value.int .i64 _)).toNat < p.R.length - (intOf (f' 8)).toNat
            rw [H8.out]
            simp [intOf]; omega
    · obtain rfl : k = p.R.length := by omega
      have hkR' : ¬ ((p.R.length : Int) < (p.R.length : Int)) := by omega
      have HP : Hid (Q (.returned (.tuple #[.pointer (some ⟨be, 0, none⟩), .int .i64 0])) V3) := by
        show Q _ _
        rw [HQ.out]
        obtain ⟨e1, e2⟩ := NwS.fin hN HXST.out (by rw [HXP.out]; exact HPRG.out)
        exact ⟨be, _, x, rfl, hN.ext, e2, e1, by rw [HXX.out]⟩
      clear HI hN
      go_wp2_with fail
      try go_ret2
      exact HP.out
end Go.Proofs.Qxb6500788a
