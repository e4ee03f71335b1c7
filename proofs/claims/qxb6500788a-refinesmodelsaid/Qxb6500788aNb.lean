import Derived.Test.Qxb6500788aNa
import Derived.StillTailTactics
import Derived.Deep.QuietTactic
import Derived.BigQuiet
import Derived.Deep.RegionHeld
import Derived.Deep.CutRange
import Derived.Laws.ResultCell
import Derived.Laws.Rows
import Derived.DeepKeys
import Derived.DataBytes
import Derived.Laws.StructEq
import Derived.Laws.AppendOwn
import Derived.Laws.MakeOwn
set_option linter.unusedSimpArgs false
set_option linter.unusedVariables false
namespace Go.Proofs.Qxb6500788a
open Go.RowKit Go.Blk
attribute [local go_sem ↓] execOp_load execOp_store execOp_alloc
attribute [local go_sem] Try.ld24 Try.st24 Try.ld25 Try.st25 Try.ld3 Try.st3 Try.ld30 Try.st30 Try.ld36 Try.st36 Try.ld4 Try.st4 Try.ld41 Try.st41 Try.ld50 Try.st50 Try.ld40 Try.st40 Try.ld42 Try.st42 Try.ld89 Try.st89 Try.ld91 Try.st91 Try.ld56 Try.st56 Try.ld97 Try.st97 Try.ld98 Try.st98 Try.ld101 Try.st101 Try.ld104 Try.st104 Try.ld57 Try.st57 Try.ld130 Try.st130 Try.ld2 Try.st2 Try.ld5 Try.st5 Try.ld9 Try.st9 Try.ld12 Try.st12 Try.ld21 Try.st21 Try.ld22 Try.st22 Try.ld29 Try.st29 Try.ld33 Try.st33 Try.ld59 Try.st59 Try.ld62 Try.st62 Try.ld69 Try.st69 Try.ld94 Try.st94 Try.ld96 Try.st96 Try.ld129 Try.st129 Try.ld158 Try.st158 Try.ld162 Try.st162 Try.ld47 Try.st47 Try.ld44 Try.st44 Try.ld137 Try.st137 Try.ld145 Try.st145 Try.ld43 Try.st43 Try.ld27 Try.st27 Try.ld38 Try.st38 Try.ld46 Try.st46 Try.ld49 Try.st49 Try.ld52 Try.st52 Try.ld54 Try.st54 Try.ld61 Try.st61 Try.ld80 Try.st80 Try.ld87 Try.st87 Try.ld93 Try.st93 Try.ld100 Try.st100 Try.ld103 Try.st103 Try.ld106 Try.st106 Try.ld109 Try.st109 Try.ld132 Try.st132 Try.ld147 Try.st147 Try.al47 Try.al44 Try.al137 Try.al145 Try.al43 Try.al27 Try.al38 Try.al46 Try.al49 Try.al52 Try.al54 Try.al61 Try.al80 Try.al87 Try.al93 Try.al100 Try.al103 Try.al106 Try.al109 Try.al132 Try.al147
attribute [local go_sem] GProgram.length_enc GProgram.ok_enc GProgram.all_get GProgram.all_set GProgram.preds_get GProgram.preds_set GProgram.rules_get GProgram.rules_set GProgram.strata_get GProgram.strata_set Answer.length_enc Answer.ok_enc Answer.all_get Answer.all_set Answer.code_get Answer.code_set Answer.n_get Answer.n_set Answer.rows_get Answer.rows_set Term.length_enc Term.ok_enc Term.all_get Term.all_set Term.var_get Term.var_set Term.n_get Term.n_set Atom.length_enc Atom.ok_enc Atom.all_get Atom.all_set Atom.pred_get Atom.pred_set Atom.args_get Atom.args_set GRule.length_enc GRule.ok_enc GRule.all_get GRule.all_set GRule.head_get GRule.head_set GRule.body_get GRule.body_set GRule.head_pred_get GRule.head_pred_set GRule.head_args_get GRule.head_args_set GOp.length_enc GOp.ok_enc GOp.all_get GOp.all_set GOp.kind_get GOp.kind_set GOp.pred_get GOp.pred_set GOp.t_get GOp.t_set GOp.n_get GOp.n_set GOp.base_get GOp.base_set GOp.rule_get GOp.rule_set GOp.rule_head_get GOp.rule_head_set GOp.rule_body_get GOp.rule_body_set GOp.rule_head_pred_get GOp.rule_head_pred_set GOp.rule_head_args_get GOp.rule_head_args_set PredInfo.length_enc PredInfo.ok_enc PredInfo.all_get PredInfo.all_set PredInfo.arity_get PredInfo.arity_set PredInfo.base_get PredInfo.base_set PredInfo.stratum_get PredInfo.stratum_set GStats.length_enc GStats.ok_enc GStats.all_get GStats.all_set GStats.rounds_get GStats.rounds_set GStats.fired_get GStats.fired_set GStats.emitted_get GStats.emitted_set GStats.fresh_get GStats.fresh_set Literal.length_enc Literal.ok_enc Literal.all_get Literal.all_set Literal.neg_get Literal.neg_set Literal.atom_get Literal.atom_set Literal.atom_pred_get Literal.atom_pred_set Literal.atom_args_get Literal.atom_args_set Engine.length_enc Engine.ok_enc Engine.all_get Engine.all_set Engine.prog_get Engine.prog_set Engine.st_get Engine.st_set Engine.levels_get Engine.levels_set Engine.running_get Engine.running_set Engine.stratum_get Engine.stratum_set Engine.round_get Engine.round_set Engine.saved_get Engine.saved_set Engine.stats_get Engine.stats_set Engine.prog_preds_get Engine.prog_preds_set Engine.prog_rules_get Engine.prog_rules_set Engine.prog_strata_get Engine.prog_strata_set Engine.stats_rounds_get Engine.stats_rounds_set Engine.stats_fired_get Engine.stats_fired_set Engine.stats_emitted_get Engine.stats_emitted_set Engine.stats_fresh_get Engine.stats_fresh_set Level.length_enc Level.ok_enc Level.all_get Level.all_set Level.heads_get Level.heads_set Level.jobs_get Level.jobs_set Plan.length_enc Plan.ok_enc Plan.all_get Plan.all_set Plan.rule_get Plan.rule_set Plan.delta_get Plan.delta_set Plan.src_get Plan.src_set Job.length_enc Job.ok_enc Job.all_get Job.all_set Job.full_get Job.full_set Job.deltas_get Job.deltas_set Job.full_rule_get Job.full_rule_set Job.full_delta_get Job.full_delta_set Job.full_src_get Job.full_src_set GState.length_enc GState.ok_enc GState.all_get GState.all_set GState.prog_get GState.prog_set GState.base_get GState.base_set GState.shown_get GState.shown_set GState.prog_preds_get GState.prog_preds_set GState.prog_rules_get GState.prog_rules_set GState.prog_strata_get GState.prog_strata_set Store.length_enc Store.ok_enc Store.all_get Store.all_set Store.arity_get Store.arity_set Store.rows_get Store.rows_set Env.length_enc Env.ok_enc Env.all_get Env.all_set Env.val_get Env.val_set Env.set_get Env.set_set
attribute [local go_sem] size_put size_ext blk_put free_put blk_alloc free_alloc blk_drew free_drew blk_ext free_ext lookOr_some putOr_some segAt_some cellAt_some storeIn_some put_put put_alloc_new length_arr ok_arr_u8 ok_arr_u32 ok_arr_u64 ok_arr_i64 ok_arr_sl cellsV_agg cellsV_int cellsV_bool cellsV_string cellsV_pointer cellsV_slice cellsV_sl ok_int ok_bool ok_string ok_pointer ok_slice ok_sl toList_arr seg_arr set_arr nth_splice nth_splice0 seg_splice seg_splice0 splice_splice splice_splice0 length_splice_if
attribute [local go_sem ↓] execOp_box
attribute [local go_sem] box_run nth_arr_u8 put_arr_u8 blk_drewN free_drewN put_drewN blk_raw free_raw
theorem bslice104_lit (w : World) (x0 x1 x2 : Value) : (bsliceOp 104 1 #[(0, .agg #[x0, x1, x2])]).run Try.prog w = .ok (.value (.slice (some ⟨w.heap.size, 0, none⟩) 1 1)) (w.alloc (.cells #[x0, x1, x2] 103)) := by kernel_rfl
theorem bslice104 (w : World) (x : Plan) : (bsliceOp 104 1 #[(0, .agg x.enc.toArray)]).run Try.prog w = .ok (.value (.slice (some ⟨w.heap.size, 0, none⟩) 1 1)) (w.alloc (.cells x.enc.toArray 103)) := bslice104_lit w _ _ _
theorem own_one (V : World) (B : Nat) (e : TypeId) (sz : Nat) (xs : List Value) (hx : xs.length = sz) (hB : B ≤ V.heap.size) : (V.alloc (.cells xs.toArray e)).ownsRow B e sz (.slice (some ⟨V.heap.size, 0, none⟩) 1 1) 1 xs := by
  refine ⟨by omega, .inr ⟨V.heap.size, 1, xs.toArray, rfl, hB, ?_, Nat.le_refl _, by decide, by simp; omega, ?_⟩⟩
  · rw [heap_alloc, if_pos rfl]
  · rw [List.take_of_length_le (by simp; omega)]
/-- The places of the positive literals. -/
def isPos (L : List Literal) (i : Nat) : Bool := match L[i]? with | some l => !l.neg | none => false
def posOf (L : List Literal) (n : Nat) : List Nat := (List.range n).filter (isPos L)
theorem posOf_succ (L : List Literal) (n : Nat) : posOf L (n + 1) = if isPos L n then posOf L n ++ [n] else posOf L n := by
  unfold posOf
  rw [List.range_succ, List.filter_append]
  by_cases h : isPos L n = true
  · rw [if_pos h]; simp [List.filter, h]
  · rw [if_neg h]
    have h' : isPos L n = false := by simpa using h
    simp [List.filter, h']
def plD (L : List Literal) (n : Nat) : List Int := (-1) :: (posOf L n).map (fun (i : Nat) => (i : Int))
/-- The plans of rule k so far: rows of a memory of their own. -/
def PlsI (w : World) (p : Pg) (k i : Nat) (a : Option Addr) (m c : Nat) (Ys : List Plan) (V : World) : Prop :=
  ∃ O : Own, (∀ b, b < w.heap.size → O b = .a 0 0) ∧ w.Extends V ∧ RowL w.heap.size O (.a 1 0) V 103 3 (.slice a m c) Ys.length (Ys.flatMap Plan.enc) ∧ m = Ys.length ∧ Ys.length = (plD (p.L k) i).length ∧ ∀ (j : Nat) (y : Plan) (d : Int), Ys[j]? = some y → (plD (p.L k) i)[j]? = some d → PlanC (core O V) y p k d
def PlansX (w : World) (p : Pg) (k : Nat) (e : Ending) (V : World) : Prop := ∃ (a : Option Addr) (m c : Nat) (Ys : List Plan), e = .returned (.slice a m c) ∧ w.Extends V ∧ Rw Plan.enc 3 (newc w.heap.size V) a m Ys ∧ Ys.length = (plD (p.L k) (p.L k).length).length ∧ ∀ (j : Nat) (y : Plan) (d : Int), Ys[j]? = some y → (plD (p.L k) (p.L k).length)[j]? = some d → PlanC (newc w.heap.size V) y p k d
def pnI (w : World) (bp : Nat) (p : Pg) (k : Nat) (f : Nat → Value) (V : World) : Prop := f 0 = .pointer (some ⟨bp, 0, none⟩) ∧ f 1 = .int .i64 (k : Nat) ∧ ∃ (i : Nat) (a : Option Addr) (m c : Nat) (Ys : List Plan), i ≤ (p.L k).length ∧ f 6 = .int .i64 (i : Nat) ∧ f 5 = .slice a m c ∧ m ≤ 100 ∧ Hid (PlsI w p k i a m c Ys V)
theorem posOf_len (L : List Literal) (n : Nat) : (posOf L n).length ≤ n := by
  have := List.length_filter_le (isPos L) (List.range n)
  rw [List.length_range] at this
  exact this
/-- One more plan. -/
theorem PlsI.app {w V V1 : World} {p : Pg} {k i : Nat} {a : Option Addr} {m c : Nat} {Ys : List Plan} (h : PlsI w p k i a m c Ys V) (hm : m ≤ 100) (hx : V.Extends V1) {y : Plan} {d : Int} (hy : PlanC (newc V.heap.size V1) y p k d) (hd : plD (p.L k) (i + 1) = plD (p.L k) i ++ [d]) :
    ∃ a' c' W', (Builtin.append_ #[104, 104] 104 #[.slice a m c, .slice (some ⟨V1.heap.size, 0, none⟩) 1 1]).run Try.prog (V1.alloc (.cells y.enc.toArray 103)) = .ok (.slice a' (m + 1) c') W' ∧ PlsI w p k (i + 1) a' (m + 1) c' (Ys ++ [y]) W' := by
  obtain ⟨O, h1, h2, h3, h4, h5, h6⟩ := h
  obtain ⟨O1, hO1⟩ : ∃ O1, O1 = lab O V.heap.size .no := ⟨_, rfl⟩
  have hrow : RowL w.heap.size O1 (.a 1 0) V1 103 3 (.slice a m c) Ys.length (Ys.flatMap Plan.enc) := h3.keep (fun b hb _ => ⟨hx.block b hb, by rw [hO1]; exact lab_lt hb⟩)
  obtain ⟨a', c', W', hrun, hrow2, hfr⟩ := appL Plan.enc 3 40 104 103 Try.underlying104 info103 Plan.length_enc Plan.one_enc (by omega) (by omega) 104 y hrow (Nat.le_trans h2.size hx.size) (by omega) y.enc.toArray rfl 1
  have hno : ¬ (Lab.no = .a 1 0) := fun e => by cases e
  have hws := h2.size
  have hVs := hx.size
  refine ⟨a', c', W', hrun, _, fun b hb => ?_, ?_, hrow2, by rw [List.length_append, List.length_singleton, h4], by rw [hd, List.length_append, List.length_append, h5]; rfl, fun j z e hz he => ?_⟩
  · rw [lab_lt (by omega), hO1, lab_lt (by omega)]; exact h1 b hb
  · exact hfr.extends (h2.trans hx) (fun b hb e => by rw [hO1, lab_lt (by omega), h1 b hb] at e; injection e with e _; cases e)
  · have hsub : Sub (core O V) (core O1 V1) := Sub.cores (fun b C hb ho => ⟨(hx.blk (blk_lt hb)).trans hb, by rw [hO1, lab_lt (blk_lt hb)]; exact ho⟩)
    have hc := Sub.ext (core_fr hfr hno)
    rw [hd] at he
    by_cases hj : j < Ys.length
    · rw [List.getElem?_append_left hj] at hz
      rw [List.getElem?_append_left (by omega)] at he
      exact (h6 j z e hz he).sub (hsub.trans hc)
    · have hl := (List.getElem?_eq_some_iff.1 hz).1
      rw [List.length_append, List.length_singleton] at hl
      obtain rfl : j = Ys.length := by omega
      rw [List.getElem?_append_right (Nat.le_refl _), Nat.sub_self] at hz
      rw [List.getElem?_append_right (by omega), h5, Nat.sub_self] at he
      have e1 : y = z := Option.some.inj hz
      have e2 : d = e := Option.some.inj he
      subst e1 e2
      refine (hy.sub ?_).sub hc
      rw [hO1]; exact newc_core O
theorem PlsI.fin {w V : World} {p : Pg} {k : Nat} {a : Option Addr} {m c : Nat} {Ys : List Plan} (h : PlsI w p k (p.L k).length a m c Ys V) : PlansX w p k (.returned (.slice a m c)) V := by
  obtain ⟨O, h1, h2, h3, h4, h5, h6⟩ := h
  refine ⟨a, m, c, Ys, rfl, h2, ?_, h5, fun j y d hy hd => (h6 j y d hy hd).sub ?_⟩
  · have hrw := (h3.rw Plan.length_enc).1
    refine ⟨hrw.1, fun i x hx => ?_⟩
    obtain ⟨b, C, g1, g2, g3⟩ := hrw.2 i x hx
    exact ⟨b, C, g1, blk_newc g2 (row_at h3.1 b (by rw [g1]; rfl)).1, g3⟩
  · intro b C hb
    obtain ⟨g1, g2⟩ := core_blk hb
    refine blk_newc g1 (Nat.le_of_not_lt fun hlt => ?_)
    rw [h1 b hlt] at g2; cases g2
set_option maxRecDepth 100000 in
theorem frame45 (f : Nat → Value) : frameN 45 f = #[f 0, f 1, f 2, f 3, f 4, f 5, f 6, f 7, f 8, f 9, f 10, f 11, f 12, f 13, f 14, f 15, f 16, f 17, f 18, f 19, f 20, f 21, f 22, f 23, f 24, f 25, f 26, f 27, f 28, f 29, f 30, f 31, f 32, f 33, f 34, f 35, f 36, f 37, f 38, f 39, f 40, f 41, f 42, f 43, f 44] := by kernel_rfl
attribute [local go_sem] prg_len prg0 prg1 prg2 prg_all prg_ok bslice104
attribute [local go_sem ↓] execOp_bslice
set_option maxRecDepth 20000 in
set_option maxHeartbeats 4000000 in
theorem plans_x (w : World) (bp : Nat) (p : Pg) (hI : PgB w bp p) (hok : PgOk p) (k : Nat) (r : GRule) (hr : p.R[k]? = some r) :
    Calls Try.prog 72 #[.pointer (some ⟨bp, 0, none⟩), .int .i64 (k : Nat)] w (PlansX w p k) := by
  have hI0 := hI
  obtain ⟨aP, cP, aR, cR, hbp, hprg⟩ := hI
  obtain ⟨-, -, -, -, ⟨bR, hAR⟩, hbd⟩ := hprg
  have hkM : k < p.R.length := (List.getElem?_eq_some_iff.1 hr).1
  obtain ⟨bL, oL, aa, cc, hsv, hL⟩ := hbd k r hr
  have h8 := hok.b8 k r hr
  have h128 := hok.nR
  have p0 : 0 ≤ r.head.pred := by
    obtain ⟨q, x, f1, _⟩ := hok.head k r hr
    omega
  have hLp : ∀ l ∈ p.L k, 0 ≤ l.atom.pred ∧ l.atom.pred < (p.P.length : Int) := fun l hl => by
    obtain ⟨q, x, f1, f2, _⟩ := hok.lits k r hr l hl
    have := (List.getElem?_eq_some_iff.1 f2).1
    rw [f1]; omega
  obtain ⟨h, hh⟩ : ∃ h : Nat, r.head.pred = (h : Int) := ⟨r.head.pred.toNat, by omega⟩
  obtain ⟨CR, rfl, hCR, hCRl, c0, c9⟩ := rule_at hAR hkM hr hsv hh
  have HI := hid_of hI0
  have HOK := hid_of hok
  have HR := hid_of hr
  have HL := hid_of hL
  have HLP := hid_of hLp
  have HCR := hid_of hCR
  have HBP := hid_of hbp
  have k0 : (0 : Int) ≤ (k : Int) := by omega
  have k1 : (k : Int) < (p.R.length : Int) := by omega
  have k2 : ((k : Int)).toNat = k := by omega
  have hp1 := plan_x w bp p hI0 hok k r hr (-1)
  have HP1 := hid_of hp1
  clear hp1 hr hsv hL hLp hbd hAR hok hI0 hh p0 c0 hbp hCR
  go_enter Try.func72, Try.ntmps72
  go_wp2_with fail
  refine HP1.out.mono ?_
  rintro e V1 ⟨y, rfl, hx1, hy1⟩
  have HX1 := hid_of hx1
  have HY1 := hid_of hy1
  clear HP1 hx1 hy1
  dsimp only
  go_upto_region 3 with fail
  have HI0 : Hid (PlsI w p k 0 (some ⟨V1.heap.size, 0, none⟩) 1 1 [y] (V1.alloc (.cells y.enc.toArray 103))) := by
    have hs := HX1.out.size
    have hx2 : V1.Extends (V1.alloc (.cells y.enc.toArray 103)) := extends_alloc (ext_Ext (Ext.refl _)) _
    refine ⟨lab (lab (fun _ => .a 0 0) w.heap.size .no) V1.heap.size (.a 1 0), fun b hb => by rw [lab_lt (by omega), lab_lt hb], HX1.out.trans hx2, ⟨by simpa using own_one V1 w.heap.size 103 3 y.enc (Plan.length_enc y) hs, fun b hb => ?_⟩, rfl, rfl, fun j z d hz hd => ?_⟩
    · have : V1.heap.size = b := Option.some.inj hb
      exact lab_ge (by omega)
    · have hj := (List.getElem?_eq_some_iff.1 hz).1
      rw [List.length_singleton] at hj
      obtain rfl : j = 0 := by omega
      have e1 : y = z := Option.some.inj hz
      have e2 : (-1 : Int) = d := Option.some.inj hd
      subst e1 e2
      refine HY1.out.sub (Sub.cores (fun b C hb ho => ⟨(hx2.blk (blk_lt hb)).trans hb, ?_⟩))
      rw [lab_lt (blk_lt hb)]; exact ho
  refine wp_loop_f 45 (pnI w bp p k) (fun f _ => (p.L k).length - (intOf (f 6)).toNat) rfl ⟨rfl, rfl, 0, _, 1, 1, [y], by omega, rfl, rfl, by omega, HI0⟩ ?_
  clear HI0 HX1 HY1
  intro F V hrel
  obtain ⟨f0, f1, i, a, m, c, Ys, hi, f6, f5, hm, HQ⟩ := hrel
  have H6 := hid_of f6
  rw [frame45, f0, f1, f5, f6]
  clear f0 f1 f5 f6
  obtain ⟨O, -, hext, -, hmY, hYl, -⟩ := HQ.out
  have hb : blk V bp = some (prgE aP p.P.length cP (some ⟨bR, 0, none⟩) p.R.length cR p.St) := (hext.blk (blk_lt HBP.out)).trans HBP.out
  have hCR : blk V bR = some CR := (hext.blk (blk_lt HCR.out)).trans HCR.out
  have hm9 : m ≤ 9 := by
    have h1 := posOf_len (p.L k) i
    rw [hmY, hYl]
    unfold plD
    rw [List.length_cons, List.length_map]; omega
  by_cases hin : i < (p.L k).length
  · have hin' : (i : Int) < ((p.L k).length : Int) := by omega
    obtain ⟨l, CL, q, hl, hq, hqN, rfl, hCL, hCLl, d0, d1⟩ := lit_at (HL.out.grw hext) HLP.out hin
    have i0 : (0 : Int) ≤ (i : Int) := by omega
    have i2 : ((i : Int)).toNat = i := by omega
    obtain ⟨ng, hng⟩ : ∃ ng, ng = l.neg := ⟨_, rfl⟩
    rw [← hng] at d0
    have hpo : isPos (p.L k) i = !ng := by unfold isPos; rw [hl, hng]
    have hpl : plD (p.L k) (i + 1) = if ng then plD (p.L k) i else plD (p.L k) i ++ [(i : Int)] := by
      unfold plD
      rw [posOf_succ, hpo]
      cases ng <;> simp
    have HPL := hid_of hpl
    have HEX := hid_of hext
    clear hl hq hng hpo hpl hext hmY hYl
    cases ng with
    | true =>
      have HQ' : Hid (PlsI w p k (i + 1) a m c Ys V) := by
        obtain ⟨O, h1, h2, h3, h4, h5, h6⟩ := HQ.out
        have e := HPL.out
        rw [if_pos rfl] at e
        refine ⟨O, h1, h2, h3, h4, by rw [e]; exact h5, ?_⟩
        rw [e]; exact h6
      go_wp2_with fail
      refine ⟨rfl, rfl, ⟨rfl, rfl, i + 1, a, m, c, Ys, by omega, ?_, rfl, hm, HQ'⟩, ?_⟩
      · show Value.int .i64 _ = _
        go_num
      · show (p.L k).length - (intOf (Value.int .i64 _)).toNat < (p.L k).length - (intOf (F 6)).toNat
        rw [H6.out]
        simp [intOf]; omega
    | false =>
      have hp2 := plan_x V bp p (HI.out.ext HEX.out) HOK.out k r HR.out (i : Int)
      have HP2 := hid_of hp2
      clear hp2
      go_wp2_with fail
      refine HP2.out.mono ?_
      rintro e V2 ⟨y2, rfl, hx2, hy2⟩
      obtain ⟨a', c', W', hrun, hpi⟩ := HQ.out.app hm hx2 hy2 (by have := HPL.out; rw [if_neg (by decide)] at this; exact this)
      have HQ' := hid_of hpi
      clear HP2 hx2 hy2 hpi hb hCR hCL
      dsimp only
      go_wp2_with (at_builtin; refine wpList_append_run rfl _ _ 104 rfl _ _ _ _ rfl rfl hrun ?_)
      refine ⟨rfl, rfl, ⟨rfl, rfl, i + 1, a', m + 1, c', Ys ++ [y2], by omega, ?_, rfl, by omega, HQ'⟩, ?_⟩
      · show Value.int .i64 _ = _
        go_num
      · show (p.L k).length - (intOf (Value.int .i64 _)).toNat < (p.L k).length - (intOf (F 6)).toNat
        rw [H6.out]
        simp [intOf]; omega
  · obtain rfl : i = (p.L k).length := by omega
    have hin' : ¬ (((p.L k).length : Int) < ((p.L k).length : Int)) := by omega
    have HP : Hid (PlansX w p k (.returned (.slice a m c)) V) := HQ.out.fin
    clear HQ hext hmY hYl
    go_wp2_with fail
    try go_ret
    exact HP.out
end Go.Proofs.Qxb6500788a
