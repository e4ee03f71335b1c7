import Derived.Test.Qxb6500788aPo2
import Derived.StillTailTactics
import Derived.Deep.QuietTactic
import Derived.BigQuiet
import Derived.Deep.RegionHeld
import Derived.Deep.CutRange
import Derived.Laws.ResultCell
import Derived.Laws.Rows
import Derived.DeepKeys
import Derived.DataBytes
import Derived.Laws.StructEq
import Derived.Laws.AppendOwn
set_option linter.unusedSimpArgs false
set_option linter.unusedVariables false
namespace Go.Proofs.Qxb6500788a
open Go.RowKit Go.Blk
attribute [local go_sem ↓] execOp_load execOp_store execOp_alloc
attribute [local go_sem] Try.ld24 Try.st24 Try.ld25 Try.st25 Try.ld3 Try.st3 Try.ld30 Try.st30 Try.ld36 Try.st36 Try.ld4 Try.st4 Try.ld41 Try.st41 Try.ld50 Try.st50 Try.ld40 Try.st40 Try.ld42 Try.st42 Try.ld89 Try.st89 Try.ld91 Try.st91 Try.ld56 Try.st56 Try.ld97 Try.st97 Try.ld98 Try.st98 Try.ld101 Try.st101 Try.ld104 Try.st104 Try.ld57 Try.st57 Try.ld130 Try.st130 Try.ld2 Try.st2 Try.ld5 Try.st5 Try.ld9 Try.st9 Try.ld12 Try.st12 Try.ld21 Try.st21 Try.ld22 Try.st22 Try.ld29 Try.st29 Try.ld33 Try.st33 Try.ld59 Try.st59 Try.ld62 Try.st62 Try.ld69 Try.st69 Try.ld94 Try.st94 Try.ld96 Try.st96 Try.ld129 Try.st129 Try.ld158 Try.st158 Try.ld162 Try.st162 Try.ld47 Try.st47 Try.ld44 Try.st44 Try.ld137 Try.st137 Try.ld145 Try.st145 Try.ld43 Try.st43 Try.ld27 Try.st27 Try.ld38 Try.st38 Try.ld46 Try.st46 Try.ld49 Try.st49 Try.ld52 Try.st52 Try.ld54 Try.st54 Try.ld61 Try.st61 Try.ld80 Try.st80 Try.ld87 Try.st87 Try.ld93 Try.st93 Try.ld100 Try.st100 Try.ld103 Try.st103 Try.ld106 Try.st106 Try.ld109 Try.st109 Try.ld132 Try.st132 Try.ld147 Try.st147 Try.al47 Try.al44 Try.al137 Try.al145 Try.al43 Try.al27 Try.al38 Try.al46 Try.al49 Try.al52 Try.al54 Try.al61 Try.al80 Try.al87 Try.al93 Try.al100 Try.al103 Try.al106 Try.al109 Try.al132 Try.al147
attribute [local go_sem] GProgram.length_enc GProgram.ok_enc GProgram.all_get GProgram.all_set GProgram.preds_get GProgram.preds_set GProgram.rules_get GProgram.rules_set GProgram.strata_get GProgram.strata_set Answer.length_enc Answer.ok_enc Answer.all_get Answer.all_set Answer.code_get Answer.code_set Answer.n_get Answer.n_set Answer.rows_get Answer.rows_set Term.length_enc Term.ok_enc Term.all_get Term.all_set Term.var_get Term.var_set Term.n_get Term.n_set Atom.length_enc Atom.ok_enc Atom.all_get Atom.all_set Atom.pred_get Atom.pred_set Atom.args_get Atom.args_set GRule.length_enc GRule.ok_enc GRule.all_get GRule.all_set GRule.head_get GRule.head_set GRule.body_get GRule.body_set GRule.head_pred_get GRule.head_pred_set GRule.head_args_get GRule.head_args_set GOp.length_enc GOp.ok_enc GOp.all_get GOp.all_set GOp.kind_get GOp.kind_set GOp.pred_get GOp.pred_set GOp.t_get GOp.t_set GOp.n_get GOp.n_set GOp.base_get GOp.base_set GOp.rule_get GOp.rule_set GOp.rule_head_get GOp.rule_head_set GOp.rule_body_get GOp.rule_body_set GOp.rule_head_pred_get GOp.rule_head_pred_set GOp.rule_head_args_get GOp.rule_head_args_set PredInfo.length_enc PredInfo.ok_enc PredInfo.all_get PredInfo.all_set PredInfo.arity_get PredInfo.arity_set PredInfo.base_get PredInfo.base_set PredInfo.stratum_get PredInfo.stratum_set GStats.length_enc GStats.ok_enc GStats.all_get GStats.all_set GStats.rounds_get GStats.rounds_set GStats.fired_get GStats.fired_set GStats.emitted_get GStats.emitted_set GStats.fresh_get GStats.fresh_set Literal.length_enc Literal.ok_enc Literal.all_get Literal.all_set Literal.neg_get Literal.neg_set Literal.atom_get Literal.atom_set Literal.atom_pred_get Literal.atom_pred_set Literal.atom_args_get Literal.atom_args_set Engine.length_enc Engine.ok_enc Engine.all_get Engine.all_set Engine.prog_get Engine.prog_set Engine.st_get Engine.st_set Engine.levels_get Engine.levels_set Engine.running_get Engine.running_set Engine.stratum_get Engine.stratum_set Engine.round_get Engine.round_set Engine.saved_get Engine.saved_set Engine.stats_get Engine.stats_set Engine.prog_preds_get Engine.prog_preds_set Engine.prog_rules_get Engine.prog_rules_set Engine.prog_strata_get Engine.prog_strata_set Engine.stats_rounds_get Engine.stats_rounds_set Engine.stats_fired_get Engine.stats_fired_set Engine.stats_emitted_get Engine.stats_emitted_set Engine.stats_fresh_get Engine.stats_fresh_set Level.length_enc Level.ok_enc Level.all_get Level.all_set Level.heads_get Level.heads_set Level.jobs_get Level.jobs_set Plan.length_enc Plan.ok_enc Plan.all_get Plan.all_set Plan.rule_get Plan.rule_set Plan.delta_get Plan.delta_set Plan.src_get Plan.src_set Job.length_enc Job.ok_enc Job.all_get Job.all_set Job.full_get Job.full_set Job.deltas_get Job.deltas_set Job.full_rule_get Job.full_rule_set Job.full_delta_get Job.full_delta_set Job.full_src_get Job.full_src_set GState.length_enc GState.ok_enc GState.all_get GState.all_set GState.prog_get GState.prog_set GState.base_get GState.base_set GState.shown_get GState.shown_set GState.prog_preds_get GState.prog_preds_set GState.prog_rules_get GState.prog_rules_set GState.prog_strata_get GState.prog_strata_set Store.length_enc Store.ok_enc Store.all_get Store.all_set Store.arity_get Store.arity_set Store.rows_get Store.rows_set Env.length_enc Env.ok_enc Env.all_get Env.all_set Env.val_get Env.val_set Env.set_get Env.set_set
attribute [local go_sem] size_put size_ext blk_put free_put blk_alloc free_alloc blk_drew free_drew blk_ext free_ext lookOr_some putOr_some segAt_some cellAt_some storeIn_some put_put put_alloc_new length_arr ok_arr_u8 ok_arr_u32 ok_arr_u64 ok_arr_i64 ok_arr_sl cellsV_agg cellsV_int cellsV_bool cellsV_string cellsV_pointer cellsV_slice cellsV_sl ok_int ok_bool ok_string ok_pointer ok_slice ok_sl toList_arr seg_arr set_arr nth_splice nth_splice0 seg_splice seg_splice0 splice_splice splice_splice0 length_splice_if
attribute [local go_sem ↓] execOp_box
attribute [local go_sem] box_run nth_arr_u8 put_arr_u8 blk_drewN free_drewN put_drewN blk_raw free_raw
set_option maxRecDepth 100000 in
theorem frame181 (f : Nat → Value) : frameN 181 f = #[f 0, f 1, f 2, f 3, f 4, f 5, f 6, f 7, f 8, f 9, f 10, f 11, f 12, f 13, f 14, f 15, f 16, f 17, f 18, f 19, f 20, f 21, f 22, f 23, f 24, f 25, f 26, f 27, f 28, f 29, f 30, f 31, f 32, f 33, f 34, f 35, f 36, f 37, f 38, f 39, f 40, f 41, f 42, f 43, f 44, f 45, f 46, f 47, f 48, f 49, f 50, f 51, f 52, f 53, f 54, f 55, f 56, f 57, f 58, f 59, f 60, f 61, f 62, f 63, f 64, f 65, f 66, f 67, f 68, f 69, f 70, f 71, f 72, f 73, f 74, f 75, f 76, f 77, f 78, f 79, f 80, f 81, f 82, f 83, f 84, f 85, f 86, f 87, f 88, f 89, f 90, f 91, f 92, f 93, f 94, f 95, f 96, f 97, f 98, f 99, f 100, f 101, f 102, f 103, f 104, f 105, f 106, f 107, f 108, f 109, f 110, f 111, f 112, f 113, f 114, f 115, f 116, f 117, f 118, f 119, f 120, f 121, f 122, f 123, f 124, f 125, f 126, f 127, f 128, f 129, f 130, f 131, f 132, f 133, f 134, f 135, f 136, f 137, f 138, f 139, f 140, f 141, f 142, f 143, f 144, f 145, f 146, f 147, f 148, f 149, f 150, f 151, f 152, f 153, f 154, f 155, f 156, f 157, f 158, f 159, f 160, f 161, f 162, f 163, f 164, f 165, f 166, f 167, f 168, f 169, f 170, f 171, f 172, f 173, f 174, f 175, f 176, f 177, f 178, f 179, f 180] := by kernel_rfl
set_option maxRecDepth 100000 in
theorem frame16 (f : Nat → Value) : frameN 16 f = #[f 0, f 1, f 2, f 3, f 4, f 5, f 6, f 7, f 8, f 9, f 10, f 11, f 12, f 13, f 14, f 15] := by kernel_rfl
/-- The program can be read. -/
def PrIn (bp bP bR : Nat) (aP : Option Addr) (N cP : Nat) (aR : Option Addr) (M cR : Nat) (S : Int) (P : List PredInfo) (R : List GRule) (ba : Nat → Option Addr) (bn bc : Nat → Nat) (Ls : Nat → List Literal) (w : World) : Prop :=
  blk w bp = some (prgE aP N cP aR M cR S) ∧ At PredInfo.enc 3 w bP 0 aP N P ∧ At GRule.enc 10 w bR 0 aR M R ∧ ∀ k r, R[k]? = some r → ∃ bL oL, Sl.val r.body = .slice (ba k) (bn k) (bc k) ∧ At Literal.enc 10 w bL oL (ba k) (bn k) (Ls k) ∧ RuleWf N P r (bn k) (Ls k)
theorem At.grow {α : Type} {e : α → List Value} {sz : Nat} {W W' : World} {b o : Nat} {a : Option Addr} {n : Nat} {L : List α} (h : At e sz W b o a n L) (he : W.Extends W') : At e sz W' b o a n L :=
  h.mono (fun h0 => by obtain ⟨_, C, h1, _⟩ := h.2 h0; exact he.blk (blk_lt h1))
theorem PrIn.ext {bp bP bR : Nat} {aP : Option Addr} {N cP : Nat} {aR : Option Addr} {M cR : Nat} {S : Int} {P : List PredInfo} {R : List GRule} {ba : Nat → Option Addr} {bn bc : Nat → Nat} {Ls : Nat → List Literal} {w W : World} (h : PrIn bp bP bR aP N cP aR M cR S P R ba bn bc Ls w) (he : w.Extends W) : PrIn bp bP bR aP N cP aR M cR S P R ba bn bc Ls W := by
  obtain ⟨h1, h2, h3, h4⟩ := h
  refine ⟨(he.blk (blk_lt h1)).trans h1, h2.grow he, h3.grow he, fun k r hr => ?_⟩
  obtain ⟨bL, oL, e1, e2, e3⟩ := h4 k r hr
  exact ⟨bL, oL, e1, e2.grow he, e3⟩
def LOk (y x : PredInfo) (ng : Bool) : Prop := ¬ y.stratum < x.stratum ∧ ¬ (ng = true ∧ y.stratum ≤ x.stratum)
def GoodP (P : List PredInfo) (S : Int) (i : Nat) : Prop := ∀ (k : Nat) (x : PredInfo), k < i → P[k]? = some x → 0 ≤ x.stratum ∧ x.stratum < S
def GoodL (P : List PredInfo) (r : GRule) (L : List Literal) (j : Nat) : Prop := ∀ (y : PredInfo), P[r.head.pred.toNat]? = some y → ∀ (k : Nat) (l : Literal) (x : PredInfo), k < j → L[k]? = some l → P[l.atom.pred.toNat]? = some x → LOk y x l.neg
def GoodR (P : List PredInfo) (R : List GRule) (Ls : Nat → List Literal) (m : Nat) : Prop := ∀ (k : Nat) (r : GRule), k < m → R[k]? = some r → GoodL P r (Ls k) (Ls k).length
def Good (P : List PredInfo) (R : List GRule) (Ls : Nat → List Literal) (S : Int) : Prop := GoodP P S P.length ∧ GoodR P R Ls R.length
theorem GoodP.step {P : List PredInfo} {S : Int} {i : Nat} {x : PredInfo} (h : GoodP P S i) (hx : P[i]? = some x) (h1 : 0 ≤ x.stratum ∧ x.stratum < S) : GoodP P S (i + 1) := fun k z hk hz => by
  by_cases e : k = i
  · subst e
    obtain rfl : z = x := Option.some.inj (hz.symm.trans hx)
    exact h1
  · exact h k z (by omega) hz
theorem GoodR.step {P : List PredInfo} {R : List GRule} {Ls : Nat → List Literal} {i : Nat} {r : GRule} (h : GoodR P R Ls i) (hr : R[i]? = some r) (h1 : GoodL P r (Ls i) (Ls i).length) : GoodR P R Ls (i + 1) := fun k z hk hz => by
  by_cases e : k = i
  · subst e
    obtain rfl : z = r := Option.some.inj (hz.symm.trans hr)
    exact h1
  · exact h k z (by omega) hz
theorem GoodL.step {P : List PredInfo} {r : GRule} {L : List Literal} {i : Nat} {l : Literal} {y x : PredInfo} (h : GoodL P r L i) (hy : P[r.head.pred.toNat]? = some y) (hl : L[i]? = some l) (hx : P[l.atom.pred.toNat]? = some x) (h1 : LOk y x l.neg) : GoodL P r L (i + 1) := fun y' hy' k l' x' hk hl' hx' => by
  by_cases e : k = i
  · subst e
    obtain rfl : l' = l := Option.some.inj (hl'.symm.trans hl)
    obtain rfl : y' = y := Option.some.inj (hy'.symm.trans hy)
    obtain rfl : x' = x := Option.some.inj (hx'.symm.trans hx)
    exact h1
  · exact h y' hy' k l' x' (by omega) hl' hx'
theorem inTable_any (w : World) (bp : Nat) (aP : Option Addr) (N cP : Nat) (aR : Option Addr) (M cR : Nat) (S : Int) (hb : blk w bp = some (prgE aP N cP aR M cR S)) (q : Nat) (hq : q < N) (hN : N ≤ 64) : Calls Try.prog 64 #[.pointer (some ⟨bp, 0, none⟩), .int .i64 (q : Int)] w fun e w' => e = .returned (.bool true) ∧ w' = w := by
  have q0 : (0 : Int) ≤ (q : Int) := by omega
  have q1 : (q : Int) < (N : Int) := by omega
  have r0 := prg0 aP N cP aR M cR S
  have r1 := prg_len aP N cP aR M cR S
  go_enter Try.func64, Try.ntmps64
  go_wp2_with fail
  go_ret
  exact ⟨rfl, rfl⟩
def WLPost (P : List PredInfo) (R : List GRule) (Ls : Nat → List Literal) (S : Int) (w : World) (e : Ending) (w' : World) : Prop := ∃ b, e = .returned (.bool b) ∧ (b = true ↔ Good P R Ls S) ∧ Ext w w'
def wlA (w : World) (bp N : Nat) (P : List PredInfo) (S : Int) (f : Nat → Value) (W : World) : Prop :=
  f 0 = .pointer (some ⟨bp, 0, none⟩) ∧ ∃ i : Nat, i ≤ N ∧ f 3 = .int .i64 (i : Nat) ∧ Hid (Ext w W) ∧ Hid (GoodP P S i)
def wlB (w : World) (bp M : Nat) (P : List PredInfo) (R : List GRule) (Ls : Nat → List Literal) (f : Nat → Value) (W : World) : Prop :=
  f 0 = .pointer (some ⟨bp, 0, none⟩) ∧ ∃ k : Nat, k ≤ M ∧ f 5 = .int .i64 (k : Nat) ∧ Hid (Ext w W) ∧ Hid (GoodR P R Ls k)
def wlC (w : World) (bp bR k n : Nat) (tp : Int) (P : List PredInfo) (r : GRule) (L : List Literal) (f : Nat → Value) (W : World) : Prop :=
  f 0 = .pointer (some ⟨bp, 0, none⟩) ∧ f 5 = .int .i64 (k : Nat) ∧ f 6 = .pointer (some ⟨bR, k * 10, none⟩) ∧ f 7 = .int .i64 tp ∧ ∃ j : Nat, j ≤ n ∧ f 8 = .int .i64 (j : Nat) ∧ Hid (Ext w W) ∧ Hid (GoodL P r L j)
attribute [local go_sem] prg_len prg0 prg1 prg2 prg_set0 prg_set1 prg_set2 prg_all prg_ok
set_option maxRecDepth 20000 in
set_option maxHeartbeats 8000000 in
theorem wellLayered_any (w : World) (bp bP bR : Nat) (aP : Option Addr) (N cP : Nat) (aR : Option Addr) (M cR : Nat) (S : Int) (P : List PredInfo) (R : List GRule) (ba : Nat → Option Addr) (bn bc : Nat → Nat) (Ls : Nat → List Literal) (hI : PrIn bp bP bR aP N cP aR M cR S P R ba bn bc Ls w) (hN : N ≤ 64) (hM : M ≤ 128) (hS1 : 1 ≤ S) (hA : ∀ x ∈ P, 0 ≤ x.arity ∧ x.arity ≤ 4) :
    Calls Try.prog 41 #[.pointer (some ⟨bp, 0, none⟩)] w (WLPost P R Ls S w) := by
  have HI : Hid (PrIn bp bP bR aP N cP aR M cR S P R ba bn bc Ls w) := hI
  have HA : Hid (∀ x ∈ P, 0 ≤ x.arity ∧ x.arity ≤ 4) := hA
  have hb := hI.1
  clear hI hA
  have n1 : ¬ (64 : Int) < (N : Int) := by omega
  have n2 : ¬ (128 : Int) < (M : Int) := by omega
  have n3 : ¬ S < 1 := by omega
  go_enter Try.func41, Try.ntmps41
  go_wp2_with fail
  refine wp_loop_f 181 (wlA w bp N P S) (fun f _ => N - (intOf (f 3)).toNat) rfl ?_ ?_
  · exact ⟨rfl, 0, by omega, rfl, Ext.refl _, fun k x h => absurd h (Nat.not_lt_zero _)⟩
  clear hb
  intro F W hrel
  obtain ⟨f0, i, hi, f3, HE, HG⟩ := hrel
  have H3 : Hid (F 3 = .int .i64 (i : Nat)) := f3
  rw [frame181, f0, f3]
  clear f0 f3
  have HIW : Hid (PrIn bp bP bR aP N cP aR M cR S P R ba bn bc Ls W) := HI.out.ext (ext_Ext HE.out)
  have hb := HIW.out.1
  by_cases hiN : i < N
  · obtain ⟨x, C, hx, rfl, hC, hCl, hs⟩ := HIW.out.2.1.get hiN
    rw [Nat.zero_add] at hs hCl
    obtain ⟨a0, a4⟩ := HA.out x (List.mem_of_getElem? hx)
    have HX : Hid (P[i]? = some x) := hx
    obtain ⟨⟨ar, bs, st⟩, hxx⟩ : ∃ y : PredInfo, y = x := ⟨x, rfl⟩
    have HXX : Hid ((⟨ar, bs, st⟩ : PredInfo) = x) := hxx
    rw [← hxx] at hs a0 a4
    simp only at a0 a4
    have m1 : ¬ ar < 0 := by omega
    have m2 : ¬ 4 < ar := by omega
    have i0 : (0 : Int) ≤ (i : Int) := by omega
    have i1 : (i : Int) < (N : Int) := by omega
    have i2 : ((i : Int)).toNat = i := by omega
    have l1 : i * 3 + 3 ≤ C.length := by omega
    have hbl := blk_lt hb
    clear hx hxx hCl
    go_upto_region 7 with fail
    refine wp_world (fun W2 => blk W2 W.heap.size = some (⟨ar, bs, st⟩ : PredInfo).enc ∧ blk W2 bp = some (prgE (some ⟨bP, 0, none⟩) N cP aR M cR S) ∧ Hid (Ext w W2)) ⟨?_, ?_, HE.out.alloc _⟩ ?_
    · rw [blk_alloc, if_pos rfl]
    · rw [blk_alloc, if_neg (by omega)]; exact hb
    rintro W2 ⟨ht2, hb2, HE2⟩
    obtain ⟨bt, hbt⟩ : ∃ bt, bt = W.heap.size := ⟨_, rfl⟩
    rw [← hbt] at ht2 ⊢
    clear hbt hb hbl hC hs HIW HE
    by_cases s0 : st < 0
    · repeat go_step
      go_quiet (fail)
      go_wp2_with fail
      go_ret
      refine ⟨false, rfl, ⟨fun h => absurd h (by decide), fun h => ?_⟩, HE2.out.drewN _⟩
      have := h.1 i x (by rw [HI.out.2.1.1]; exact hiN) HX.out
      rw [← HXX.out] at this
      exact absurd this.1 (by simp only; omega)
    by_cases s1 : S ≤ st
    · repeat go_step
      go_quiet (fail)
      go_wp2_with fail
      go_ret
      refine ⟨false, rfl, ⟨fun h => absurd h (by decide), fun h => ?_⟩, HE2.out.drewN _⟩
      have := h.1 i x (by rw [HI.out.2.1.1]; exact hiN) HX.out
      rw [← HXX.out] at this
      exact absurd this.2 (by simp only; omega)
    have HG' : Hid (GoodP P S (i + 1)) := HG.out.step HX.out (by rw [← HXX.out]; exact ⟨by simp only; omega, by simp only; omega⟩)
    repeat go_step
    go_quiet (fail)
    go_wp2_with fail
    refine ⟨rfl, rfl, ⟨rfl, i + 1, by omega, ?_, HE2.out.drewN _, HG'⟩, ?_⟩
    · show Value.int .i64 _ = _
      go_num
    · show N - (intOf (Value.int .i64 _)).toNat < N - (intOf (F 3)).toNat
      rw [H3.out]
      simp [intOf]; omega
  obtain rfl : i = N := by omega
  go_wp2_with fail
  clear H3
  refine wp_loop_f 181 (wlB w bp M P R Ls) (fun f _ => M - (intOf (f 5)).toNat) rfl ?_ ?_
  · exact ⟨rfl, 0, by omega, rfl, HE, fun k x h => absurd h (Nat.not_lt_zero _)⟩
  clear hb HIW HE
  have HGP : Hid (GoodP P S i) := HG
  clear HG
  intro F W hrel
  obtain ⟨f0, k, hk, f5, HE, HG⟩ := hrel
  have H5 : Hid (F 5 = .int .i64 (k : Nat)) := f5
  rw [frame181, f0, f5]
  clear f0 f5
  have HIW : Hid (PrIn bp bP bR aP i cP aR M cR S P R ba bn bc Ls W) := HI.out.ext (ext_Ext HE.out)
  have hb := HIW.out.1
  by_cases hkM : k < M
  · obtain ⟨r, hr⟩ : ∃ r, R[k]? = some r := by obtain ⟨r, _, h, _⟩ := HIW.out.2.2.1.get hkM; exact ⟨r, h⟩
    obtain ⟨bL, oL, hsv, hL, hwf⟩ := HIW.out.2.2.2 k r hr
    obtain ⟨nn, hnn⟩ : ∃ nn, nn = bn k := ⟨_, rfl⟩
    obtain ⟨aa, haa⟩ : ∃ aa, aa = ba k := ⟨_, rfl⟩
    obtain ⟨cc, hcc⟩ : ∃ cc, cc = bc k := ⟨_, rfl⟩
    obtain ⟨L, hLL⟩ : ∃ L, L = Ls k := ⟨_, rfl⟩
    rw [← hnn, ← haa, ← hcc] at hsv
    rw [← hnn, ← haa, ← hLL] at hL
    rw [← hnn, ← hLL] at hwf
    have HLL : Hid (L = Ls k) := hLL
    have HLa : Hid (∀ V, W.Extends V → At Literal.enc 10 V bL oL aa nn L) := fun V he => hL.grow he
    have HLp : Hid (∀ l ∈ L, 0 ≤ l.atom.pred ∧ l.atom.pred < (i : Int)) := hwf.2.2.2
    obtain ⟨h8, ⟨p0, p1⟩, hbase, _⟩ := hwf
    obtain ⟨h, hh⟩ : ∃ h : Nat, r.head.pred = (h : Int) := ⟨r.head.pred.toNat, by omega⟩
    have hhi : h < i := by omega
    obtain ⟨CR, rfl, hCR, hCRl, c0, c9⟩ := rule_at HIW.out.2.2.1 hkM hr hsv hh
    obtain ⟨y, C, hy, rfl, hC, hCl, hs⟩ := HIW.out.2.1.get hhi
    rw [Nat.zero_add] at hs hCl
    have hyb : y.base = false := hbase y (by rw [hh]; exact hy)
    have y1 : nth C (h * 3 + 1) = some (.bool false) := by have := nth_in hs (PredInfo.base_get y) (by omega); rw [hyb] at this; exact this
    have y2 : nth C (h * 3 + 2) = some (.int .i64 y.stratum) := nth_in hs (PredInfo.stratum_get y) (by omega)
    have HY : Hid (P[r.head.pred.toNat]? = some y) := by show _ = _; rw [hh]; exact hy
    have HR : Hid (R[k]? = some r) := hr
    obtain ⟨tp, htp⟩ : ∃ tp, tp = y.stratum := ⟨_, rfl⟩
    rw [← htp] at y2
    have HTP : Hid (tp = y.stratum) := htp
    have k0 : (0 : Int) ≤ (k : Int) := by omega
    have k1 : (k : Int) < (M : Int) := by omega
    have k2 : ((k : Int)).toNat = k := by omega
    have h0 : (0 : Int) ≤ (h : Int) := by omega
    have h1 : (h : Int) < (i : Int) := by omega
    have h2 : ((h : Int)).toNat = h := by omega
    have l1 : h * 3 + 2 < C.length := by omega
    have m1 : ¬ (8 : Int) < (nn : Int) := by omega
    have HC : Hid (blk W bP = some C) := hC
    have HCR : Hid (blk W bR = some CR) := hCR
    clear hr hsv hL hbase p0 p1 hh hy hs hyb htp hnn haa hcc hLL hCl
    repeat go_step
    refine wp_region_held_drew (S := fun W' => blk W' bp = some (prgE (some ⟨bP, 0, none⟩) i cP (some ⟨bR, 0, none⟩) M cR S) ∧ blk W' bR = some CR ∧ blk W' bP = some C) (by kernel_rfl) ⟨hb, hCR, hC⟩ (fun hHeld => ?_)
    refine wpAnyH_take (i := 0) (oi := ⟨_, _, _, _, _, _⟩) (v := ?_) rfl (by kernel_rfl) (by kernel_rfl) (by kernel_rfl) (fun _ _ _ h => h) (Or.inl ⟨by rfl, ?_⟩) (by assumption) ?_
    rotate_left 1
    · intro W' hSw
      obtain ⟨hS1, hS2, hS3⟩ := hSw
      go_simp
      try with_reducible rfl
    try simp only [Act.put, List.setIfInBounds_toArray, List.set_cons_zero, List.set_cons_succ]
    refine wpAnyH_take (i := 1) (oi := ⟨_, _, _, _, _, _⟩) (v := ?_) rfl (by kernel_rfl) (by kernel_rfl) (by kernel_rfl) (fun _ _ _ h => h) (Or.inl ⟨by rfl, ?_⟩) (by assumption) ?_
    rotate_left 1
    · intro W' hSw
      obtain ⟨hS1, hS2, hS3⟩ := hSw
      go_simp
      try with_reducible rfl
    try simp only [Act.put, List.setIfInBounds_toArray, List.set_cons_zero, List.set_cons_succ]
    refine wpAnyH_take (i := 2) (oi := ⟨_, _, _, _, _, _⟩) (v := ?_) rfl (by kernel_rfl) (by kernel_rfl) (by kernel_rfl) (fun _ _ _ h => h) (Or.inl ⟨by rfl, ?_⟩) (by assumption) ?_
    rotate_left 1
    · intro W' hSw
      obtain ⟨hS1, hS2, hS3⟩ := hSw
      go_simp
      try with_reducible rfl
    try simp only [Act.put, List.setIfInBounds_toArray, List.set_cons_zero, List.set_cons_succ]
    refine wpAnyH_take (i := 3) (oi := ⟨_, _, _, _, _, _⟩) (v := ?_) rfl (by kernel_rfl) (by kernel_rfl) (by kernel_rfl) (fun _ _ _ h => h) (Or.inl ⟨by rfl, ?_⟩) (by assumption) ?_
    rotate_left 1
    · intro W' hSw
      obtain ⟨hS1, hS2, hS3⟩ := hSw
      go_simp
      try with_reducible rfl
    try simp only [Act.put, List.setIfInBounds_toArray, List.set_cons_zero, List.set_cons_succ]
    refine wpAnyH_take (i := 4) (oi := ⟨_, _, _, _, _, _⟩) (v := ?_) rfl (by kernel_rfl) (by kernel_rfl) (by kernel_rfl) (fun _ _ _ h => h) (Or.inl ⟨by rfl, ?_⟩) (by assumption) ?_
    rotate_left 1
    · intro W' hSw
      obtain ⟨hS1, hS2, hS3⟩ := hSw
      go_simp
      try with_reducible rfl
    try simp only [Act.put, List.setIfInBounds_toArray, List.set_cons_zero, List.set_cons_succ]
    refine wpAnyH_take (i := 5) (oi := ⟨_, _, _, _, _, _⟩) (v := ?_) rfl (by kernel_rfl) (by kernel_rfl) (by kernel_rfl) (fun _ _ _ h => h) (Or.inl ⟨by rfl, ?_⟩) (by assumption) ?_
    rotate_left 1
    · intro W' hSw
      obtain ⟨hS1, hS2, hS3⟩ := hSw
      go_simp
      try with_reducible rfl
    try simp only [Act.put, List.setIfInBounds_toArray, List.set_cons_zero, List.set_cons_succ]
    refine wpAnyH_ready (rs := [6]) (by kernel_rfl) (by simp) ?_
    refine AllReadyH.cons (o := ⟨_, _, _, _, _, _⟩) rfl (fun K hK => ?_) AllReadyH.nil
    go_simp
    refine (inTable_any W.drew bp (some ⟨bP, 0, none⟩) i cP (some ⟨bR, 0, none⟩) M cR S hb h hhi hN).mono ?_
    rintro e W2 ⟨rfl, hW2⟩
    obtain rfl : W2 = W.drew := hW2
    dsimp only
    refine hK.out _ _ ?_ (fun hHeld => ?_)
    · exact ⟨hb, hCR, hC⟩
    clear hK K
    try simp only [Act.put, List.setIfInBounds_toArray, List.set_cons_zero, List.set_cons_succ]
    refine wpAnyH_take (i := 7) (oi := ⟨_, _, _, _, _, _⟩) (v := ?_) rfl (by kernel_rfl) (by kernel_rfl) (by kernel_rfl) (fun _ _ _ h => h) (Or.inl ⟨by rfl, ?_⟩) (by assumption) ?_
    rotate_left 1
    · intro W' hSw
      obtain ⟨hS1, hS2, hS3⟩ := hSw
      go_simp
      try with_reducible rfl
    try simp only [Act.put, List.setIfInBounds_toArray, List.set_cons_zero, List.set_cons_succ]
    refine wpAnyH_take (i := 8) (oi := ⟨_, _, _, _, _, _⟩) (v := ?_) rfl (by kernel_rfl) (by kernel_rfl) (by kernel_rfl) (fun _ _ _ h => h) (Or.inl ⟨by rfl, ?_⟩) (by assumption) ?_
    rotate_left 1
    · intro W' hSw
      obtain ⟨hS1, hS2, hS3⟩ := hSw
      go_simp
      try with_reducible rfl
    try simp only [Act.put, List.setIfInBounds_toArray, List.set_cons_zero, List.set_cons_succ]
    refine wpAnyH_take (i := 9) (oi := ⟨_, _, _, _, _, _⟩) (v := ?_) rfl (by kernel_rfl) (by kernel_rfl) (by kernel_rfl) (fun _ _ _ h => h) (Or.inl ⟨by rfl, ?_⟩) (by assumption) ?_
    rotate_left 1
    · intro W' hSw
      obtain ⟨hS1, hS2, hS3⟩ := hSw
      go_simp
      try with_reducible rfl
    try simp only [Act.put, List.setIfInBounds_toArray, List.set_cons_zero, List.set_cons_succ]
    refine wpAnyH_take (i := 10) (oi := ⟨_, _, _, _, _, _⟩) (v := ?_) rfl (by kernel_rfl) (by kernel_rfl) (by kernel_rfl) (fun _ _ _ h => h) (Or.inl ⟨by rfl, ?_⟩) (by assumption) ?_
    rotate_left 1
    · intro W' hSw
      obtain ⟨hS1, hS2, hS3⟩ := hSw
      go_simp
      try with_reducible rfl
    try simp only [Act.put, List.setIfInBounds_toArray, List.set_cons_zero, List.set_cons_succ]
    refine wpAnyH_take (i := 11) (oi := ⟨_, _, _, _, _, _⟩) (v := ?_) rfl (by kernel_rfl) (by kernel_rfl) (by kernel_rfl) (fun _ _ _ h => h) (Or.inl ⟨by rfl, ?_⟩) (by assumption) ?_
    rotate_left 1
    · intro W' hSw
      obtain ⟨hS1, hS2, hS3⟩ := hSw
      go_simp
      try with_reducible rfl
    try simp only [Act.put, List.setIfInBounds_toArray, List.set_cons_zero, List.set_cons_succ]
    refine wpAnyH_take (i := 12) (oi := ⟨_, _, _, _, _, _⟩) (v := ?_) rfl (by kernel_rfl) (by kernel_rfl) (by kernel_rfl) (fun _ _ _ h => h) (Or.inl ⟨by rfl, ?_⟩) (by assumption) ?_
    rotate_left 1
    · intro W' hSw
      obtain ⟨hS1, hS2, hS3⟩ := hSw
      go_simp
      try with_reducible rfl
    try simp only [Act.put, List.setIfInBounds_toArray, List.set_cons_zero, List.set_cons_succ]
    refine wpAnyH_take (i := 13) (oi := ⟨_, _, _, _, _, _⟩) (v := ?_) rfl (by kernel_rfl) (by kernel_rfl) (by kernel_rfl) (fun _ _ _ h => h) (Or.inl ⟨by rfl, ?_⟩) (by assumption) ?_
    rotate_left 1
    · intro W' hSw
      obtain ⟨hS1, hS2, hS3⟩ := hSw
      go_simp
      try with_reducible rfl
    try simp only [Act.put, List.setIfInBounds_toArray, List.set_cons_zero, List.set_cons_succ]
    refine wpAnyH_take (i := 14) (oi := ⟨_, _, _, _, _, _⟩) (v := ?_) rfl (by kernel_rfl) (by kernel_rfl) (by kernel_rfl) (fun _ _ _ h => h) (Or.inl ⟨by rfl, ?_⟩) (by assumption) ?_
    rotate_left 1
    · intro W' hSw
      obtain ⟨hS1, hS2, hS3⟩ := hSw
      go_simp
      try with_reducible rfl
    try simp only [Act.put, List.setIfInBounds_toArray, List.set_cons_zero, List.set_cons_succ]
    refine wpAnyH_take (i := 15) (oi := ⟨_, _, _, _, _, _⟩) (v := ?_) rfl (by kernel_rfl) (by kernel_rfl) (by kernel_rfl) (fun _ _ _ h => h) (Or.inl ⟨by rfl, ?_⟩) (by assumption) ?_
    rotate_left 1
    · intro W' hSw
      obtain ⟨hS1, hS2, hS3⟩ := hSw
      go_simp
      try with_reducible rfl
    try simp only [Act.put, List.setIfInBounds_toArray, List.set_cons_zero, List.set_cons_succ]
    refine wpAnyH_take (i := 16) (oi := ⟨_, _, _, _, _, _⟩) (v := ?_) rfl (by kernel_rfl) (by kernel_rfl) (by kernel_rfl) (fun _ _ _ h => h) (Or.inl ⟨by rfl, ?_⟩) (by assumption) ?_
    rotate_left 1
    · intro W' hSw
      obtain ⟨hS1, hS2, hS3⟩ := hSw
      go_simp
      try with_reducible rfl
    try simp only [Act.put, List.setIfInBounds_toArray, List.set_cons_zero, List.set_cons_succ]
    refine wpAnyH_take (i := 17) (oi := ⟨_, _, _, _, _, _⟩) (v := ?_) rfl (by kernel_rfl) (by kernel_rfl) (by kernel_rfl) (fun _ _ _ h => h) (Or.inl ⟨by rfl, ?_⟩) (by assumption) ?_
    rotate_left 1
    · intro W' hSw
      obtain ⟨hS1, hS2, hS3⟩ := hSw
      go_simp
      try with_reducible rfl
    try simp only [Act.put, List.setIfInBounds_toArray, List.set_cons_zero, List.set_cons_succ]
    refine wpAnyH_take (i := 18) (oi := ⟨_, _, _, _, _, _⟩) (v := ?_) rfl (by kernel_rfl) (by kernel_rfl) (by kernel_rfl) (fun _ _ _ h => h) (Or.inl ⟨by rfl, ?_⟩) (by assumption) ?_
    rotate_left 1
    · intro W' hSw
      obtain ⟨hS1, hS2, hS3⟩ := hSw
      go_simp
      try with_reducible rfl
    try simp only [Act.put, List.setIfInBounds_toArray, List.set_cons_zero, List.set_cons_succ]
    refine wpAnyH_take (i := 19) (oi := ⟨_, _, _, _, _, _⟩) (v := ?_) rfl (by kernel_rfl) (by kernel_rfl) (by kernel_rfl) (fun _ _ _ h => h) (Or.inl ⟨by rfl, ?_⟩) (by assumption) ?_
    rotate_left 1
    · intro W' hSw
      obtain ⟨hS1, hS2, hS3⟩ := hSw
      go_simp
      try with_reducible rfl
    try simp only [Act.put, List.setIfInBounds_toArray, List.set_cons_zero, List.set_cons_succ]
    refine wpAnyH_take (i := 20) (oi := ⟨_, _, _, _, _, _⟩) (v := ?_) rfl (by kernel_rfl) (by kernel_rfl) (by kernel_rfl) (fun _ _ _ h => h) (Or.inl ⟨by rfl, ?_⟩) (by assumption) ?_
    rotate_left 1
    · intro W' hSw
      obtain ⟨hS1, hS2, hS3⟩ := hSw
      go_simp
      try with_reducible rfl
    try simp only [Act.put, List.setIfInBounds_toArray, List.set_cons_zero, List.set_cons_succ]
    refine wpAnyH_take (i := 21) (oi := ⟨_, _, _, _, _, _⟩) (v := ?_) rfl (by kernel_rfl) (by kernel_rfl) (by kernel_rfl) (fun _ _ _ h => h) (Or.inl ⟨by rfl, ?_⟩) (by assumption) ?_
    rotate_left 1
    · intro W' hSw
      obtain ⟨hS1, hS2, hS3⟩ := hSw
      go_simp
      try with_reducible rfl
    try simp only [Act.put, List.setIfInBounds_toArray, List.set_cons_zero, List.set_cons_succ]
    refine wpAnyH_take (i := 22) (oi := ⟨_, _, _, _, _, _⟩) (v := ?_) rfl (by kernel_rfl) (by kernel_rfl) (by kernel_rfl) (fun _ _ _ h => h) (Or.inl ⟨by rfl, ?_⟩) (by assumption) ?_
    rotate_left 1
    · intro W' hSw
      obtain ⟨hS1, hS2, hS3⟩ := hSw
      go_simp
      try with_reducible rfl
    try simp only [Act.put, List.setIfInBounds_toArray, List.set_cons_zero, List.set_cons_succ]
    refine wpAnyH_take (i := 23) (oi := ⟨_, _, _, _, _, _⟩) (v := ?_) rfl (by kernel_rfl) (by kernel_rfl) (by kernel_rfl) (fun _ _ _ h => h) (Or.inl ⟨by rfl, ?_⟩) (by assumption) ?_
    rotate_left 1
    · intro W' hSw
      obtain ⟨hS1, hS2, hS3⟩ := hSw
      go_simp
      try with_reducible rfl
    try simp only [Act.put, List.setIfInBounds_toArray, List.set_cons_zero, List.set_cons_succ]
    refine wpAnyH_take (i := 24) (oi := ⟨_, _, _, _, _, _⟩) (v := ?_) rfl (by kernel_rfl) (by kernel_rfl) (by kernel_rfl) (fun _ _ _ h => h) (Or.inl ⟨by rfl, ?_⟩) (by assumption) ?_
    rotate_left 1
    · intro W' hSw
      obtain ⟨hS1, hS2, hS3⟩ := hSw
      go_simp
      try with_reducible rfl
    try simp only [Act.put, List.setIfInBounds_toArray, List.set_cons_zero, List.set_cons_succ]
    refine wpAnyH_take (i := 25) (oi := ⟨_, _, _, _, _, _⟩) (v := ?_) rfl (by kernel_rfl) (by kernel_rfl) (by kernel_rfl) (fun _ _ _ h => h) (Or.inl ⟨by rfl, ?_⟩) (by assumption) ?_
    rotate_left 1
    · intro W' hSw
      obtain ⟨hS1, hS2, hS3⟩ := hSw
      go_simp
      try with_reducible rfl
    try simp only [Act.put, List.setIfInBounds_toArray, List.set_cons_zero, List.set_cons_succ]
    refine wpAnyH_take (i := 26) (oi := ⟨_, _, _, _, _, _⟩) (v := ?_) rfl (by kernel_rfl) (by kernel_rfl) (by kernel_rfl) (fun _ _ _ h => h) (Or.inl ⟨by rfl, ?_⟩) (by assumption) ?_
    rotate_left 1
    · intro W' hSw
      obtain ⟨hS1, hS2, hS3⟩ := hSw
      go_simp
      try with_reducible rfl
    try simp only [Act.put, List.setIfInBounds_toArray, List.set_cons_zero, List.set_cons_succ]
    refine wpAnyH_take (i := 27) (oi := ⟨_, _, _, _, _, _⟩) (v := ?_) rfl (by kernel_rfl) (by kernel_rfl) (by kernel_rfl) (fun _ _ _ h => h) (Or.inl ⟨by rfl, ?_⟩) (by assumption) ?_
    rotate_left 1
    · intro W' hSw
      obtain ⟨hS1, hS2, hS3⟩ := hSw
      go_simp
      try with_reducible rfl
    try simp only [Act.put, List.setIfInBounds_toArray, List.set_cons_zero, List.set_cons_succ]
    refine wpAnyH_take (i := 28) (oi := ⟨_, _, _, _, _, _⟩) (v := ?_) rfl (by kernel_rfl) (by kernel_rfl) (by kernel_rfl) (fun _ _ _ h => h) (Or.inl ⟨by rfl, ?_⟩) (by assumption) ?_
    rotate_left 1
    · intro W' hSw
      obtain ⟨hS1, hS2, hS3⟩ := hSw
      go_simp
      try with_reducible rfl
    try simp only [Act.put, List.setIfInBounds_toArray, List.set_cons_zero, List.set_cons_succ]
    refine wpAnyH_take (i := 29) (oi := ⟨_, _, _, _, _, _⟩) (v := ?_) rfl (by kernel_rfl) (by kernel_rfl) (by kernel_rfl) (fun _ _ _ h => h) (Or.inl ⟨by rfl, ?_⟩) (by assumption) ?_
    rotate_left 1
    · intro W' hSw
      obtain ⟨hS1, hS2, hS3⟩ := hSw
      go_simp
      try with_reducible rfl
    try simp only [Act.put, List.setIfInBounds_toArray, List.set_cons_zero, List.set_cons_succ]
    refine wpAnyH_done (by kernel_rfl) ?_ _
    go_wp2_with fail
    repeat go_step
    go_quiet (fail)
    go_wp2_with fail
    refine wp_loop_f 181 (wlC W bp bR k nn tp P r L) (fun f _ => nn - (intOf (f 8)).toNat) rfl ?_ ?_
    · exact ⟨rfl, rfl, rfl, rfl, 0, by omega, rfl, (Ext.refl W).drew.drewN _, fun y hy k l x h => absurd h (Nat.not_lt_zero _)⟩
    clear hCR hC hb
    intro G V hrel
    obtain ⟨f0, f5, f6, f7, j, hj, f8, HE', HGL⟩ := hrel
    have H8 : Hid (G 8 = .int .i64 (j : Nat)) := f8
    rw [frame181, f0, f5, f6, f7, f8]
    clear f0 f5 f6 f7 f8
    have hb : blk V bp = some (prgE (some ⟨bP, 0, none⟩) i cP (some ⟨bR, 0, none⟩) M cR S) := (HE'.out.blk (blk_lt HIW.out.1)).trans HIW.out.1
    have hCR : blk V bR = some CR := (HE'.out.blk (blk_lt HCR.out)).trans HCR.out
    have hC : blk V bP = some C := (HE'.out.blk (blk_lt HC.out)).trans HC.out
    by_cases hjn : j < nn
    · obtain ⟨l, CL, q, hl, hq, hqN, rfl, hCL, hCLl, d0, d1⟩ := lit_at (HLa.out V (ext_Ext HE'.out)) HLp.out hjn
      obtain ⟨x, C', hx, _, hC', hCl', hs'⟩ := HIW.out.2.1.get hqN
      obtain rfl : C' = C := Option.some.inj (hC'.symm.trans HC.out)
      rw [Nat.zero_add] at hs' hCl'
      have x2 : nth C' (q * 3 + 2) = some (.int .i64 x.stratum) := nth_in hs' (PredInfo.stratum_get x) (by omega)
      have HX : Hid (P[l.atom.pred.toNat]? = some x) := by show _ = _; rw [hq]; exact hx
      have HLj : Hid (L[j]? = some l) := hl
      obtain ⟨s, hs⟩ : ∃ s, s = x.stratum := ⟨_, rfl⟩
      rw [← hs] at x2
      have HSx : Hid (s = x.stratum) := hs
      obtain ⟨ng, hng⟩ : ∃ ng, ng = l.neg := ⟨_, rfl⟩
      rw [← hng] at d0
      have HNG : Hid (ng = l.neg) := hng
      have q0 : (0 : Int) ≤ (q : Int) := by omega
      have q1 : (q : Int) < (i : Int) := by omega
      have q2 : ((q : Int)).toNat = q := by omega
      have j0 : (0 : Int) ≤ (j : Int) := by omega
      have j1 : (j : Int) < (nn : Int) := by omega
      have j2 : ((j : Int)).toNat = j := by omega
      have l5 : q * 3 + 2 < C'.length := by omega
      clear hl hq hx hs' hs hng hC' hCl'
      go_wp2_with fail
      refine (inTable_any V bp (some ⟨bP, 0, none⟩) i cP (some ⟨bR, 0, none⟩) M cR S hb q hqN hN).mono ?_
      rintro e V2 ⟨rfl, hV2⟩
      obtain rfl : V2 = V := hV2
      dsimp only
      by_cases c1 : tp < s
      · repeat go_step
        go_quiet (fail)
        go_wp2_with fail
        go_ret
        refine ⟨false, rfl, ⟨fun h => absurd h (by decide), fun h => ?_⟩, HE.out.trans (HE'.out.drewN _)⟩
        have hL := h.2 k r (by rw [HI.out.2.2.1.1]; exact hkM) HR.out y HY.out j l x (by rw [← HLL.out]; exact (List.getElem?_eq_some_iff.1 HLj.out).1) (by rw [← HLL.out]; exact HLj.out) HX.out
        exact (hL.1 (by rw [← HTP.out, ← HSx.out]; exact c1)).elim
      cases ng with
      | true =>
        by_cases c2 : s = tp
        · repeat go_step
          go_quiet (fail)
          go_wp2_with fail
          go_ret
          refine ⟨false, rfl, ⟨fun h => absurd h (by decide), fun h => ?_⟩, HE.out.trans (HE'.out.drewN _)⟩
          have hL := h.2 k r (by rw [HI.out.2.2.1.1]; exact hkM) HR.out y HY.out j l x (by rw [← HLL.out]; exact (List.getElem?_eq_some_iff.1 HLj.out).1) (by rw [← HLL.out]; exact HLj.out) HX.out
          exact (hL.2 ⟨HNG.out.symm, by rw [← HTP.out, ← HSx.out]; omega⟩).elim
        have hok : LOk y x l.neg := ⟨by rw [← HTP.out, ← HSx.out]; omega, by rw [← HTP.out, ← HSx.out]; omega⟩
        have HGL' : Hid (GoodL P r L (j + 1)) := HGL.out.step HY.out HLj.out HX.out hok
        clear hok
        repeat go_step
        go_quiet (fail)
        go_wp2_with fail
        refine ⟨rfl, rfl, ⟨rfl, rfl, rfl, rfl, j + 1, by omega, ?_, HE'.out.drewN _, HGL'⟩, ?_⟩
        · show Value.int .i64 _ = _
          go_num
        · show nn - (intOf (Value.int .i64 _)).toNat < nn - (intOf (G 8)).toNat
          rw [H8.out]
          simp [intOf]; omega
      | false =>
        have hok : LOk y x l.neg := ⟨by rw [← HTP.out, ← HSx.out]; omega, by rw [← HNG.out]; simp⟩
        have HGL' : Hid (GoodL P r L (j + 1)) := HGL.out.step HY.out HLj.out HX.out hok
        clear hok
        repeat go_step
        go_quiet (fail)
        go_wp2_with fail
        refine ⟨rfl, rfl, ⟨rfl, rfl, rfl, rfl, j + 1, by omega, ?_, HE'.out.drewN _, HGL'⟩, ?_⟩
        · show Value.int .i64 _ = _
          go_num
        · show nn - (intOf (Value.int .i64 _)).toNat < nn - (intOf (G 8)).toNat
          rw [H8.out]
          simp [intOf]; omega
    obtain rfl : j = nn := by omega
    have HG' : Hid (GoodR P R Ls (k + 1)) := HG.out.step HR.out (by
      have h1 := HGL.out
      rw [← HLL.out, (HLa.out V (ext_Ext HE'.out)).1]
      exact h1)
    go_wp2_with fail
    refine ⟨rfl, rfl, ⟨rfl, k + 1, by omega, ?_, HE.out.trans HE'.out, HG'⟩, ?_⟩
    · show Value.int .i64 _ = _
      go_num
    · show M - (intOf (Value.int .i64 _)).toNat < M - (intOf (F 5)).toNat
      rw [H5.out]
      simp [intOf]; omega
  obtain rfl : k = M := by omega
  go_wp2_with fail
  go_ret
  exact ⟨true, rfl, ⟨fun _ => ⟨by rw [HI.out.2.1.1]; exact HGP.out, by rw [HI.out.2.2.1.1]; exact HG.out⟩, fun _ => rfl⟩, HE.out⟩
end Go.Proofs.Qxb6500788a
