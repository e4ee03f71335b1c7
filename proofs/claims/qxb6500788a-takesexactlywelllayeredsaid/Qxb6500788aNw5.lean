import Derived.Test.Qxb6500788aNw4
import Derived.StillTailTactics
import Derived.Deep.QuietTactic
import Derived.BigQuiet
import Derived.Deep.RegionHeld
import Derived.Deep.CutRange
import Derived.Laws.ResultCell
import Derived.Laws.Rows
import Derived.DeepKeys
import Derived.DataBytes
import Derived.Laws.StructEq
import Derived.Laws.AppendOwn
import Derived.Laws.MakeOwn
set_option linter.unusedSimpArgs false
set_option linter.unusedVariables false
namespace Go.Proofs.Qxb6500788a
open Go.RowKit Go.Blk
attribute [local go_sem ↓] execOp_load execOp_store execOp_alloc
attribute [local go_sem] Try.ld24 Try.st24 Try.ld25 Try.st25 Try.ld3 Try.st3 Try.ld30 Try.st30 Try.ld36 Try.st36 Try.ld4 Try.st4 Try.ld41 Try.st41 Try.ld50 Try.st50 Try.ld40 Try.st40 Try.ld42 Try.st42 Try.ld89 Try.st89 Try.ld91 Try.st91 Try.ld56 Try.st56 Try.ld97 Try.st97 Try.ld98 Try.st98 Try.ld101 Try.st101 Try.ld104 Try.st104 Try.ld57 Try.st57 Try.ld130 Try.st130 Try.ld2 Try.st2 Try.ld5 Try.st5 Try.ld9 Try.st9 Try.ld12 Try.st12 Try.ld21 Try.st21 Try.ld22 Try.st22 Try.ld29 Try.st29 Try.ld33 Try.st33 Try.ld59 Try.st59 Try.ld62 Try.st62 Try.ld69 Try.st69 Try.ld94 Try.st94 Try.ld96 Try.st96 Try.ld129 Try.st129 Try.ld158 Try.st158 Try.ld162 Try.st162 Try.ld47 Try.st47 Try.ld44 Try.st44 Try.ld137 Try.st137 Try.ld145 Try.st145 Try.ld43 Try.st43 Try.ld27 Try.st27 Try.ld38 Try.st38 Try.ld46 Try.st46 Try.ld49 Try.st49 Try.ld52 Try.st52 Try.ld54 Try.st54 Try.ld61 Try.st61 Try.ld80 Try.st80 Try.ld87 Try.st87 Try.ld93 Try.st93 Try.ld100 Try.st100 Try.ld103 Try.st103 Try.ld106 Try.st106 Try.ld109 Try.st109 Try.ld132 Try.st132 Try.ld147 Try.st147 Try.al47 Try.al44 Try.al137 Try.al145 Try.al43 Try.al27 Try.al38 Try.al46 Try.al49 Try.al52 Try.al54 Try.al61 Try.al80 Try.al87 Try.al93 Try.al100 Try.al103 Try.al106 Try.al109 Try.al132 Try.al147
attribute [local go_sem] GProgram.length_enc GProgram.ok_enc GProgram.all_get GProgram.all_set GProgram.preds_get GProgram.preds_set GProgram.rules_get GProgram.rules_set GProgram.strata_get GProgram.strata_set Answer.length_enc Answer.ok_enc Answer.all_get Answer.all_set Answer.code_get Answer.code_set Answer.n_get Answer.n_set Answer.rows_get Answer.rows_set Term.length_enc Term.ok_enc Term.all_get Term.all_set Term.var_get Term.var_set Term.n_get Term.n_set Atom.length_enc Atom.ok_enc Atom.all_get Atom.all_set Atom.pred_get Atom.pred_set Atom.args_get Atom.args_set GRule.length_enc GRule.ok_enc GRule.all_get GRule.all_set GRule.head_get GRule.head_set GRule.body_get GRule.body_set GRule.head_pred_get GRule.head_pred_set GRule.head_args_get GRule.head_args_set GOp.length_enc GOp.ok_enc GOp.all_get GOp.all_set GOp.kind_get GOp.kind_set GOp.pred_get GOp.pred_set GOp.t_get GOp.t_set GOp.n_get GOp.n_set GOp.base_get GOp.base_set GOp.rule_get GOp.rule_set GOp.rule_head_get GOp.rule_head_set GOp.rule_body_get GOp.rule_body_set GOp.rule_head_pred_get GOp.rule_head_pred_set GOp.rule_head_args_get GOp.rule_head_args_set PredInfo.length_enc PredInfo.ok_enc PredInfo.all_get PredInfo.all_set PredInfo.arity_get PredInfo.arity_set PredInfo.base_get PredInfo.base_set PredInfo.stratum_get PredInfo.stratum_set GStats.length_enc GStats.ok_enc GStats.all_get GStats.all_set GStats.rounds_get GStats.rounds_set GStats.fired_get GStats.fired_set GStats.emitted_get GStats.emitted_set GStats.fresh_get GStats.fresh_set Literal.length_enc Literal.ok_enc Literal.all_get Literal.all_set Literal.neg_get Literal.neg_set Literal.atom_get Literal.atom_set Literal.atom_pred_get Literal.atom_pred_set Literal.atom_args_get Literal.atom_args_set Engine.length_enc Engine.ok_enc Engine.all_get Engine.all_set Engine.prog_get Engine.prog_set Engine.st_get Engine.st_set Engine.levels_get Engine.levels_set Engine.running_get Engine.running_set Engine.stratum_get Engine.stratum_set Engine.round_get Engine.round_set Engine.saved_get Engine.saved_set Engine.stats_get Engine.stats_set Engine.prog_preds_get Engine.prog_preds_set Engine.prog_rules_get Engine.prog_rules_set Engine.prog_strata_get Engine.prog_strata_set Engine.stats_rounds_get Engine.stats_rounds_set Engine.stats_fired_get Engine.stats_fired_set Engine.stats_emitted_get Engine.stats_emitted_set Engine.stats_fresh_get Engine.stats_fresh_set Level.length_enc Level.ok_enc Level.all_get Level.all_set Level.heads_get Level.heads_set Level.jobs_get Level.jobs_set Plan.length_enc Plan.ok_enc Plan.all_get Plan.all_set Plan.rule_get Plan.rule_set Plan.delta_get Plan.delta_set Plan.src_get Plan.src_set Job.length_enc Job.ok_enc Job.all_get Job.all_set Job.full_get Job.full_set Job.deltas_get Job.deltas_set Job.full_rule_get Job.full_rule_set Job.full_delta_get Job.full_delta_set Job.full_src_get Job.full_src_set GState.length_enc GState.ok_enc GState.all_get GState.all_set GState.prog_get GState.prog_set GState.base_get GState.base_set GState.shown_get GState.shown_set GState.prog_preds_get GState.prog_preds_set GState.prog_rules_get GState.prog_rules_set GState.prog_strata_get GState.prog_strata_set Store.length_enc Store.ok_enc Store.all_get Store.all_set Store.arity_get Store.arity_set Store.rows_get Store.rows_set Env.length_enc Env.ok_enc Env.all_get Env.all_set Env.val_get Env.val_set Env.set_get Env.set_set
attribute [local go_sem] size_put size_ext blk_put free_put blk_alloc free_alloc blk_drew free_drew blk_ext free_ext lookOr_some putOr_some segAt_some cellAt_some storeIn_some put_put put_alloc_new length_arr ok_arr_u8 ok_arr_u32 ok_arr_u64 ok_arr_i64 ok_arr_sl cellsV_agg cellsV_int cellsV_bool cellsV_string cellsV_pointer cellsV_slice cellsV_sl ok_int ok_bool ok_string ok_pointer ok_slice ok_sl toList_arr seg_arr set_arr nth_splice nth_splice0 seg_splice seg_splice0 splice_splice splice_splice0 length_splice_if
attribute [local go_sem ↓] execOp_box
attribute [local go_sem] box_run nth_arr_u8 put_arr_u8 blk_drewN free_drewN put_drewN blk_raw free_raw
set_option maxRecDepth 100000 in
theorem frame119 (f : Nat → Value) : frameN 119 f = #[f 0, f 1, f 2, f 3, f 4, f 5, f 6, f 7, f 8, f 9, f 10, f 11, f 12, f 13, f 14, f 15, f 16, f 17, f 18, f 19, f 20, f 21, f 22, f 23, f 24, f 25, f 26, f 27, f 28, f 29, f 30, f 31, f 32, f 33, f 34, f 35, f 36, f 37, f 38, f 39, f 40, f 41, f 42, f 43, f 44, f 45, f 46, f 47, f 48, f 49, f 50, f 51, f 52, f 53, f 54, f 55, f 56, f 57, f 58, f 59, f 60, f 61, f 62, f 63, f 64, f 65, f 66, f 67, f 68, f 69, f 70, f 71, f 72, f 73, f 74, f 75, f 76, f 77, f 78, f 79, f 80, f 81, f 82, f 83, f 84, f 85, f 86, f 87, f 88, f 89, f 90, f 91, f 92, f 93, f 94, f 95, f 96, f 97, f 98, f 99, f 100, f 101, f 102, f 103, f 104, f 105, f 106, f 107, f 108, f 109, f 110, f 111, f 112, f 113, f 114, f 115, f 116, f 117, f 118] := by kernel_rfl
def engE (x0 x1 x2 st lv sv : Value) : List Value := [x0, x1, x2, st, lv, .bool false, .int .i64 0, .int .i64 0, sv, .int .i64 0, .int .i64 0, .int .i64 0, .int .i64 0]
theorem eng_len (x0 x1 x2 st lv sv : Value) : (engE x0 x1 x2 st lv sv).length = 13 := rfl
theorem eng3 (x0 x1 x2 st lv sv : Value) : nth (engE x0 x1 x2 st lv sv) 3 = some st := rfl
theorem eng4 (x0 x1 x2 st lv sv : Value) : nth (engE x0 x1 x2 st lv sv) 4 = some lv := rfl
theorem eng_set4 (x0 x1 x2 st lv sv v : Value) : splice (engE x0 x1 x2 st lv sv) 4 [v] = engE x0 x1 x2 st v sv := rfl
theorem eng_set8 (x0 x1 x2 st lv sv v : Value) : splice (engE x0 x1 x2 st lv sv) 8 [v] = engE x0 x1 x2 st lv v := rfl
theorem build93 (w : World) (aP : Option Addr) (N cP : Nat) (aR : Option Addr) (M cR : Nat) (S : Int) (p : Option Addr) : (buildOp 93 #[(0, .agg (prgE aP N cP aR M cR S).toArray), (1, .pointer p)]).run Try.prog w = .ok (.value (.agg (engE (.slice aP N cP) (.slice aR M cR) (.int .i64 S) (.pointer p) (.slice none 0 0) (.slice none 0 0)).toArray)) w := by kernel_rfl
def LevOk (B bl Sn : Nat) (W : World) (c : Nat) : Prop := ∃ LC, blk W bl = some LC ∧ free W bl = true ∧ LC.length = Sn * 2 ∧ ∀ s, s < Sn → ∃ a1 n1 c1 a2 n2 c2, nth LC (s * 2) = some (.slice a1 n1 c1) ∧ nth LC (s * 2 + 1) = some (.slice a2 n2 c2) ∧ WR B 41 1 W (.slice a1 n1 c1) c ∧ WR B 106 4 W (.slice a2 n2 c2) c
theorem LevOk.mor {D : Nat → Prop} {B bl Sn : Nat} {w w' : World} {c : Nat} (h : LevOk B bl Sn w c) (hm : Mor D B w w') (hd : ¬ D bl) (hB : bl < B) : LevOk B bl Sn w' c := by
  obtain ⟨LC, h1, h2, h3, h4⟩ := h
  refine ⟨LC, (hm.blk (blk_lt h1) hB hd).trans h1, (hm.free (blk_lt h1) hB hd).trans h2, h3, fun s hs => ?_⟩
  obtain ⟨a1, n1, c1, a2, n2, c2, e1, e2, e3, e4⟩ := h4 s hs
  exact ⟨a1, n1, c1, a2, n2, c2, e1, e2, e3.mor hm, e4.mor hm⟩
theorem LevOk.mono {B bl Sn : Nat} {w : World} {c c' : Nat} (h : LevOk B bl Sn w c) (hc : c ≤ c') : LevOk B bl Sn w c' := by
  obtain ⟨LC, h1, h2, h3, h4⟩ := h
  refine ⟨LC, h1, h2, h3, fun s hs => ?_⟩
  obtain ⟨a1, n1, c1, a2, n2, c2, e1, e2, e3, e4⟩ := h4 s hs
  exact ⟨a1, n1, c1, a2, n2, c2, e1, e2, e3.mono hc, e4.mono hc⟩
/-- One of a level's two rows is set. -/
theorem LevOk.set {B bl Sn : Nat} {w : World} {c : Nat} (h : LevOk B bl Sn w c) (hB : bl < B) {LC : List Value} (hLC : blk w bl = some LC) {s : Nat} (hs : s < Sn) {o : Nat} (ho : o = s * 2 ∨ o = s * 2 + 1) {a : Option Addr} {n cp : Nat} (hw0 : o = s * 2 → WR B 41 1 w (.slice a n cp) c) (hw1 : o = s * 2 + 1 → WR B 106 4 w (.slice a n cp) c) : LevOk B bl Sn (put w bl (splice LC o [.slice a n cp])) c := by
  obtain ⟨LC', h1, h2, h3, h4⟩ := h
  obtain rfl : LC' = LC := Option.some.inj (h1.symm.trans hLC)
  have hm : Mor (fun k => k = bl) B w (put w bl (splice LC' o [.slice a n cp])) := Mor.put (D := fun k => k = bl) (Mor.refl _ _ _) rfl hB _
  have hol : o < LC'.length := by omega
  refine ⟨splice LC' o [.slice a n cp], by rw [blk_put, if_pos rfl, h1]; rfl, by rw [free_put]; exact h2, by rw [length_splice1 hol]; exact h3, fun s' hs' => ?_⟩
  obtain ⟨a1, n1, c1, a2, n2, c2, e1, e2, e3, e4⟩ := h4 s' hs'
  by_cases q0 : s' * 2 = o
  · refine ⟨a, n, cp, a2, n2, c2, by rw [splice_nth hol, if_pos q0], by rw [splice_nth hol, if_neg (by omega)]; exact e2, (hw0 (by omega)).mor hm, e4.mor hm⟩
  · by_cases q1 : s' * 2 + 1 = o
    · refine ⟨a1, n1, c1, a, n, cp, by rw [splice_nth hol, if_neg q0]; exact e1, by rw [splice_nth hol, if_pos q1], e3.mor hm, (hw1 (by omega)).mor hm⟩
    · refine ⟨a1, n1, c1, a2, n2, c2, by rw [splice_nth hol, if_neg q0]; exact e1, by rw [splice_nth hol, if_neg q1]; exact e2, e3.mor hm, e4.mor hm⟩
def Comps (bP bR : Nat) (aP : Option Addr) (N : Nat) (aR : Option Addr) (M : Nat) (P : List PredInfo) (R : List GRule) (ba : Nat → Option Addr) (bn bc : Nat → Nat) (Ls : Nat → List Literal) (w : World) : Prop :=
  At PredInfo.enc 3 w bP 0 aP N P ∧ At GRule.enc 10 w bR 0 aR M R ∧ ∀ k r, R[k]? = some r → ∃ bL oL, Sl.val r.body = .slice (ba k) (bn k) (bc k) ∧ At Literal.enc 10 w bL oL (ba k) (bn k) (Ls k) ∧ RuleWf N P r (bn k) (Ls k)
theorem prIn_of {bp bP bR : Nat} {aP : Option Addr} {N cP : Nat} {aR : Option Addr} {M cR : Nat} {S : Int} {P : List PredInfo} {R : List GRule} {ba : Nat → Option Addr} {bn bc : Nat → Nat} {Ls : Nat → List Literal} {w W : World} (h : Comps bP bR aP N aR M P R ba bn bc Ls w) (he : w.Extends W) (hb : blk W bp = some (prgE aP N cP aR M cR S)) : PrIn bp bP bR aP N cP aR M cR S P R ba bn bc Ls W := by
  obtain ⟨h2, h3, h4⟩ := h
  refine ⟨hb, h2.grow he, h3.grow he, fun k r hr => ?_⟩
  obtain ⟨bL, oL, e1, e2, e3⟩ := h4 k r hr
  exact ⟨bL, oL, e1, e2.grow he, e3⟩
/-- What holds in eval.New behind its set-up. -/
def NI (w : World) (b1 be bst bl B Sn : Nat) (X Ec : List Value) (c1 c2 : Nat) (W : World) : Prop :=
  blk W b1 = some X ∧ blk W be = some Ec ∧ StoreOk B bst W c1 ∧ LevOk B bl Sn W c2 ∧ w.Extends W ∧ B ≤ W.heap.size
theorem NI.drewN {w : World} {b1 be bst bl B Sn : Nat} {X Ec : List Value} {c1 c2 : Nat} {W : World} (h : NI w b1 be bst bl B Sn X Ec c1 c2 W) (n : Nat) : NI w b1 be bst bl B Sn X Ec c1 c2 (W.drewN n) := by
  obtain ⟨h1, h2, h3, h4, h5, h6⟩ := h
  exact ⟨h1, h2, h3, h4, extends_drewN h5 n, h6⟩
theorem NI.drew {w : World} {b1 be bst bl B Sn : Nat} {X Ec : List Value} {c1 c2 : Nat} {W : World} (h : NI w b1 be bst bl B Sn X Ec c1 c2 W) : NI w b1 be bst bl B Sn X Ec c1 c2 W.drew := by
  obtain ⟨h1, h2, h3, h4, h5, h6⟩ := h
  exact ⟨h1, h2, h3, h4, extends_drew h5, h6⟩
def NewPost (P : List PredInfo) (R : List GRule) (Ls : Nat → List Literal) (S : Int) (w : World) (e : Ending) (w' : World) : Prop := ∃ v c, e = .returned (.tuple #[v, .int .i64 c]) ∧ (Good P R Ls S → c = 0) ∧ (¬ Good P R Ls S → c = 11) ∧ w.Extends w'
def nwA (w : World) (b1 be bst bl B Sn N : Nat) (X Ec : List Value) (f : Nat → Value) (W : World) : Prop :=
  f 1 = .pointer (some ⟨b1, 0, none⟩) ∧ f 4 = .pointer (some ⟨be, 0, none⟩) ∧ ∃ p : Nat, p ≤ N ∧ f 5 = .int .i64 (p : Nat) ∧ Hid (NI w b1 be bst bl B Sn X Ec (3 * p) p W)
def nwB (w : World) (b1 be bst bl B Sn p : Nat) (X Ec : List Value) (f : Nat → Value) (W : World) : Prop :=
  f 1 = .pointer (some ⟨b1, 0, none⟩) ∧ f 4 = .pointer (some ⟨be, 0, none⟩) ∧ f 5 = .int .i64 (p : Nat) ∧ ∃ k : Nat, k ≤ 3 ∧ f 6 = .int .i64 (k : Nat) ∧ Hid (NI w b1 be bst bl B Sn X Ec (3 * p + k) p W)
def nwC (w : World) (b1 be bst bl B Sn N M : Nat) (X Ec : List Value) (f : Nat → Value) (W : World) : Prop :=
  f 1 = .pointer (some ⟨b1, 0, none⟩) ∧ f 4 = .pointer (some ⟨be, 0, none⟩) ∧ ∃ n : Nat, n ≤ M ∧ f 8 = .int .i64 (n : Nat) ∧ Hid (NI w b1 be bst bl B Sn X Ec (3 * N) (N + n) W)
end Go.Proofs.Qxb6500788a
