import Derived.Test.Qxb6500788aEe
import Derived.StillTailTactics
import Derived.Deep.QuietTactic
import Derived.BigQuiet
import Derived.Deep.RegionHeld
import Derived.Deep.CutRange
import Derived.Laws.ResultCell
import Derived.Laws.Rows
import Derived.DeepKeys
import Derived.DataBytes
import Derived.Laws.StructEq
import Derived.Laws.AppendOwn
import Derived.Laws.MakeOwn
set_option linter.unusedSimpArgs false
set_option linter.unusedVariables false
namespace Go.Proofs.Qxb6500788a
open Go.RowKit Go.Blk
attribute [local go_sem ↓] execOp_load execOp_store execOp_alloc
attribute [local go_sem] Try.ld24 Try.st24 Try.ld25 Try.st25 Try.ld3 Try.st3 Try.ld30 Try.st30 Try.ld36 Try.st36 Try.ld4 Try.st4 Try.ld41 Try.st41 Try.ld50 Try.st50 Try.ld40 Try.st40 Try.ld42 Try.st42 Try.ld89 Try.st89 Try.ld91 Try.st91 Try.ld56 Try.st56 Try.ld97 Try.st97 Try.ld98 Try.st98 Try.ld101 Try.st101 Try.ld104 Try.st104 Try.ld57 Try.st57 Try.ld130 Try.st130 Try.ld2 Try.st2 Try.ld5 Try.st5 Try.ld9 Try.st9 Try.ld12 Try.st12 Try.ld21 Try.st21 Try.ld22 Try.st22 Try.ld29 Try.st29 Try.ld33 Try.st33 Try.ld59 Try.st59 Try.ld62 Try.st62 Try.ld69 Try.st69 Try.ld94 Try.st94 Try.ld96 Try.st96 Try.ld129 Try.st129 Try.ld158 Try.st158 Try.ld162 Try.st162 Try.ld47 Try.st47 Try.ld44 Try.st44 Try.ld137 Try.st137 Try.ld145 Try.st145 Try.ld43 Try.st43 Try.ld27 Try.st27 Try.ld38 Try.st38 Try.ld46 Try.st46 Try.ld49 Try.st49 Try.ld52 Try.st52 Try.ld54 Try.st54 Try.ld61 Try.st61 Try.ld80 Try.st80 Try.ld87 Try.st87 Try.ld93 Try.st93 Try.ld100 Try.st100 Try.ld103 Try.st103 Try.ld106 Try.st106 Try.ld109 Try.st109 Try.ld132 Try.st132 Try.ld147 Try.st147 Try.al47 Try.al44 Try.al137 Try.al145 Try.al43 Try.al27 Try.al38 Try.al46 Try.al49 Try.al52 Try.al54 Try.al61 Try.al80 Try.al87 Try.al93 Try.al100 Try.al103 Try.al106 Try.al109 Try.al132 Try.al147
attribute [local go_sem] GProgram.length_enc GProgram.ok_enc GProgram.all_get GProgram.all_set GProgram.preds_get GProgram.preds_set GProgram.rules_get GProgram.rules_set GProgram.strata_get GProgram.strata_set Answer.length_enc Answer.ok_enc Answer.all_get Answer.all_set Answer.code_get Answer.code_set Answer.n_get Answer.n_set Answer.rows_get Answer.rows_set Term.length_enc Term.ok_enc Term.all_get Term.all_set Term.var_get Term.var_set Term.n_get Term.n_set Atom.length_enc Atom.ok_enc Atom.all_get Atom.all_set Atom.pred_get Atom.pred_set Atom.args_get Atom.args_set GRule.length_enc GRule.ok_enc GRule.all_get GRule.all_set GRule.head_get GRule.head_set GRule.body_get GRule.body_set GRule.head_pred_get GRule.head_pred_set GRule.head_args_get GRule.head_args_set GOp.length_enc GOp.ok_enc GOp.all_get GOp.all_set GOp.kind_get GOp.kind_set GOp.pred_get GOp.pred_set GOp.t_get GOp.t_set GOp.n_get GOp.n_set GOp.base_get GOp.base_set GOp.rule_get GOp.rule_set GOp.rule_head_get GOp.rule_head_set GOp.rule_body_get GOp.rule_body_set GOp.rule_head_pred_get GOp.rule_head_pred_set GOp.rule_head_args_get GOp.rule_head_args_set PredInfo.length_enc PredInfo.ok_enc PredInfo.all_get PredInfo.all_set PredInfo.arity_get PredInfo.arity_set PredInfo.base_get PredInfo.base_set PredInfo.stratum_get PredInfo.stratum_set GStats.length_enc GStats.ok_enc GStats.all_get GStats.all_set GStats.rounds_get GStats.rounds_set GStats.fired_get GStats.fired_set GStats.emitted_get GStats.emitted_set GStats.fresh_get GStats.fresh_set Literal.length_enc Literal.ok_enc Literal.all_get Literal.all_set Literal.neg_get Literal.neg_set Literal.atom_get Literal.atom_set Literal.atom_pred_get Literal.atom_pred_set Literal.atom_args_get Literal.atom_args_set Engine.length_enc Engine.ok_enc Engine.all_get Engine.all_set Engine.prog_get Engine.prog_set Engine.st_get Engine.st_set Engine.levels_get Engine.levels_set Engine.running_get Engine.running_set Engine.stratum_get Engine.stratum_set Engine.round_get Engine.round_set Engine.saved_get Engine.saved_set Engine.stats_get Engine.stats_set Engine.prog_preds_get Engine.prog_preds_set Engine.prog_rules_get Engine.prog_rules_set Engine.prog_strata_get Engine.prog_strata_set Engine.stats_rounds_get Engine.stats_rounds_set Engine.stats_fired_get Engine.stats_fired_set Engine.stats_emitted_get Engine.stats_emitted_set Engine.stats_fresh_get Engine.stats_fresh_set Level.length_enc Level.ok_enc Level.all_get Level.all_set Level.heads_get Level.heads_set Level.jobs_get Level.jobs_set Plan.length_enc Plan.ok_enc Plan.all_get Plan.all_set Plan.rule_get Plan.rule_set Plan.delta_get Plan.delta_set Plan.src_get Plan.src_set Job.length_enc Job.ok_enc Job.all_get Job.all_set Job.full_get Job.full_set Job.deltas_get Job.deltas_set Job.full_rule_get Job.full_rule_set Job.full_delta_get Job.full_delta_set Job.full_src_get Job.full_src_set GState.length_enc GState.ok_enc GState.all_get GState.all_set GState.prog_get GState.prog_set GState.base_get GState.base_set GState.shown_get GState.shown_set GState.prog_preds_get GState.prog_preds_set GState.prog_rules_get GState.prog_rules_set GState.prog_strata_get GState.prog_strata_set Store.length_enc Store.ok_enc Store.all_get Store.all_set Store.arity_get Store.arity_set Store.rows_get Store.rows_set Env.length_enc Env.ok_enc Env.all_get Env.all_set Env.val_get Env.val_set Env.set_get Env.set_set
attribute [local go_sem] size_put size_ext blk_put free_put blk_alloc free_alloc blk_drew free_drew blk_ext free_ext lookOr_some putOr_some segAt_some cellAt_some storeIn_some put_put put_alloc_new length_arr ok_arr_u8 ok_arr_u32 ok_arr_u64 ok_arr_i64 ok_arr_sl cellsV_agg cellsV_int cellsV_bool cellsV_string cellsV_pointer cellsV_slice cellsV_sl ok_int ok_bool ok_string ok_pointer ok_slice ok_sl toList_arr seg_arr set_arr nth_splice nth_splice0 seg_splice seg_splice0 splice_splice splice_splice0 length_splice_if
attribute [local go_sem ↓] execOp_box
attribute [local go_sem] box_run nth_arr_u8 put_arr_u8 blk_drewN free_drewN put_drewN blk_raw free_raw
theorem eat_svl {B : Nat} {O : Own} {W : World} {g be : Nat} {p : Pg} {x : Engine} {S sav : List (List Tup)} (h : EAt B O W g be p x S sav) : x.saved.len = p.P.length ∧ sav.length = p.P.length := by
  obtain ⟨bst, D, h⟩ := h
  have h1 := (RowL.rw (a := x.saved.a) (n := x.saved.len) (c := x.saved.cap) slE_len h.sv).1.1
  exact ⟨by rw [← h1]; exact h.dl, h.sl⟩
/-- A place of the saved rows, opened. -/
theorem eat_sav {B : Nat} {O : Own} {W : World} {g be : Nat} {p : Pg} {x : Engine} {S sav : List (List Tup)} (h : EAt B O W g be p x S sav) {i : Nat} (hi : i < p.P.length) :
    ∃ bs Cs d L, x.saved.a = some ⟨bs, 0, none⟩ ∧ blk W bs = some Cs ∧ free W bs = true ∧ i < Cs.length ∧ be ≠ bs ∧ bs < W.heap.size ∧ O bs = .a (g + 1) 1 ∧ nth Cs i = some (.slice (Sl.a d) d.len d.cap) ∧ sav[i]? = some L ∧ Rw tpl 4 (core O W) d.a d.len L ∧
      ∀ (a : Option Addr) (n c : Nat) (L' : List Tup), Rw tpl 4 (core O W) a n L' → EAt B O (put W bs (splice Cs i [.slice a n c])) g be p x S (sav.set i L') ∧ Fr (isE g) O W O (put W bs (splice Cs i [.slice a n c])) := by
  have hlen := (eat_svl h).1
  obtain ⟨bst, D, h⟩ := h
  have hdl := h.dl
  have hsl := h.sl
  obtain ⟨bs, Cs, e1, e2, e3, e4, e5, e6, e7, e8⟩ := RowL.openT (a := x.saved.a) (n := x.saved.len) (c := x.saved.cap) slE_len h.sv (by omega)
  obtain ⟨d, hd⟩ : ∃ d, D[i]? = some d := ⟨_, List.getElem?_eq_getElem (by omega)⟩
  obtain ⟨L, hL⟩ : ∃ L, sav[i]? = some L := ⟨_, List.getElem?_eq_getElem (by omega)⟩
  have hsg := e7 i d hd
  rw [Nat.mul_one] at hsg
  have hcl : nth Cs i = some (.slice d.a d.len d.cap) := nth_in (j := 0) hsg rfl (by omega)
  have hnb : ¬ be = bs := fun e => by
    have := h.own
    rw [e, e4] at this; injection this with _ this; cases this
  refine ⟨bs, Cs, d, L, e1, blk_mk e2, free_mk e2, by omega, hnb, (Array.getElem?_eq_some_iff.1 e2).1, e4, hcl, hL, h.dr i d L hd hL, fun a n c L' hw => ?_⟩
  have hF : Fr (fun l => l = .a (g + 1) 1) O W O (put W bs (splice Cs i [.slice a n c])) := (Fr.refl _ O W).put e4 _
  have hc := core_fr hF (by intro e; cases e)
  have hne : ∀ l, isG g l → ¬ l = .a (g + 1) 1 := by rintro l ⟨n, rfl⟩ e; injection e with e _; omega
  refine ⟨⟨bst, D.set i ⟨a, n, c⟩, by rw [blk_put, if_neg hnb]; exact h.cell, by rw [free_put]; exact h.fre, h.own, h.xst, h.st.fr hF hne, h.prg.ext hc, h.lev.ext hc, ?_, by rw [List.length_set]; exact hdl, by rw [List.length_set]; exact hsl, ?_⟩, hF.mono (fun l e => by rw [e]; exact .inr (isG_a _ 1))⟩
  · refine e8 O _ _ _ (heap_putN e2) (length_splice1 (by omega)) (by simp) (fun j y hy => ?_) e4
    rw [Nat.mul_one]
    rw [List.getElem?_set] at hy
    by_cases hij : i = j
    · subst hij
      rw [if_pos rfl, if_pos (by omega)] at hy
      have s1 := seg_splice_in (C := Cs) (p := i) (n := 1) (D := slE d) (j := 0) (v := .slice a n c) hsg (by omega) (by omega)
      rw [Nat.add_zero] at s1
      rw [s1, ← Option.some.inj hy]; rfl
    · rw [if_neg hij] at hy
      rw [seg_splice_off (by omega) (by omega)]
      have := e7 j y hy
      rwa [Nat.mul_one] at this
  · intro j d2 L2 hd2 hL2
    rw [List.getElem?_set] at hd2 hL2
    by_cases hij : i = j
    · subst hij
      rw [if_pos rfl, if_pos (by omega)] at hd2
      rw [if_pos rfl, if_pos (by omega)] at hL2
      rw [← Option.some.inj hd2, ← Option.some.inj hL2]
      exact hw.grow hc
    · rw [if_neg hij] at hd2 hL2
      exact (h.dr j d2 L2 hd2 hL2).grow hc
theorem rw_nil (W : World) : Rw tpl 4 W none 0 [] := ⟨rfl, fun i x h => by cases h⟩
def fnI (B : Nat) (O : Own) (W : World) (g be : Nat) (p : Pg) (x : Engine) (S sav : List (List Tup)) (f : Nat → Value) (V : World) : Prop := f 0 = .pointer (some ⟨be, 0, none⟩) ∧ ∃ i : Nat, i ≤ p.P.length ∧ f 2 = .int .i64 (i : Int) ∧ Hid (∃ sav', EAt B O V g be p x S sav' ∧ Fr (isE g) O W O V)
set_option maxRecDepth 100000 in
theorem frame24 (f : Nat → Value) : frameN 24 f = #[f 0, f 1, f 2, f 3, f 4, f 5, f 6, f 7, f 8, f 9, f 10, f 11, f 12, f 13, f 14, f 15, f 16, f 17, f 18, f 19, f 20, f 21, f 22, f 23] := by kernel_rfl
set_option maxRecDepth 40000 in
set_option maxHeartbeats 8000000 in
theorem finish_any (B : Nat) (O : Own) (W : World) (g be : Nat) (p : Pg) (x : Engine) (S sav : List (List Tup)) (hE : EAt B O W g be p x S sav) (h64 : p.P.length ≤ 64) :
    Calls Try.prog 63 #[.pointer (some ⟨be, 0, none⟩)] W fun e W' => e = .returned (.tuple #[]) ∧ ∃ sav', EAt B O W' g be p { x with running := false, stratum := 0 } S sav' ∧ Fr (isE g) O W O W' := by
  obtain ⟨Q, hQ⟩ : ∃ Q, Q = (fun e W' => e = .returned (.tuple #[]) ∧ ∃ sav', EAt B O W' g be p { x with running := false, stratum := 0 } S sav' ∧ Fr (isE g) O W O W' : Ending → World → Prop) := ⟨_, rfl⟩
  rw [← hQ]
  have HQ := hid_of hQ
  have HI0 : Hid (∃ sav', EAt B O W g be p x S sav' ∧ Fr (isE g) O W O W) := ⟨sav, hE, Fr.refl _ _ _⟩
  clear hE hQ
  go_enter Try.func63, Try.ntmps63
  go_upto_region 1 with fail
  refine wp_loop_f 24 (fnI B O W g be p x S sav) (fun f _ => p.P.length - (intOf (f 2)).toNat) rfl ⟨rfl, 0, by omega, rfl, HI0⟩ ?_
  clear HI0
  intro f V hrel
  obtain ⟨f0, i, hi, f2, HI⟩ := hrel
  have H2 := hid_of f2
  rw [frame24, f0, f2]
  clear f0 f2
  obtain ⟨sv', hE, hFr⟩ := HI.out
  obtain ⟨bst, hcell, hfre, hxst, _⟩ := eat_st hE
  have hlen := (eat_svl hE).1
  obtain ⟨X, hX⟩ : ∃ X, X = x.enc := ⟨_, rfl⟩
  rw [← hX] at hcell
  obtain ⟨xl, _, _, _, _, _, x5, x6, _, x8, _, _, _, _⟩ := eng_cells hX
  rw [hlen] at x8
  by_cases hin : i < p.P.length
  · have hin' : (i : Int) < (p.P.length : Int) := by omega
    obtain ⟨bs, Cs, d, L, hsa, hCs, hCf, hil, hnb, _, _, _, _, _, hput⟩ := eat_sav hE hin
    rw [hsa] at x8
    have i0 : (0 : Int) ≤ (i : Int) := by omega
    have i2 : ((i : Int)).toNat = i := by omega
    obtain ⟨hE', hF'⟩ := hput none 0 0 [] (rw_nil _)
    have HI' : Hid (∃ sav', EAt B O (put V bs (splice Cs i [.slice none 0 0])) g be p x S sav' ∧ Fr (isE g) O W O (put V bs (splice Cs i [.slice none 0 0]))) := ⟨_, hE', hFr.trans hF'⟩
    clear hput hE' hF' hE hFr HI hxst hX hlen hsa
    go_wp2_with fail
    refine ⟨rfl, rfl, ⟨rfl, i + 1, by omega, ?_, HI'⟩, ?_⟩
    · show Value.int .i64 _ = _
      go_num
    · show p.P.length - (intOf (Value.int .i64 _)).toNat < p.P.length - (intOf (f 2)).toNat
      rw [H2.out]
      simp [intOf]; omega
  · obtain rfl : i = p.P.length := by omega
    have hin' : ¬ ((p.P.length : Int) < (p.P.length : Int)) := by omega
    obtain ⟨hE', hF'⟩ := hE.cells { x with running := false, stratum := 0 } rfl rfl rfl rfl
    have hs : splice (splice X 5 [.bool false]) 6 [.int .i64 0] = Engine.enc { x with running := false, stratum := 0 } := by rw [hX, Engine.running_set, Engine.stratum_set]
    have HP : Hid (Q (.returned (.tuple #[])) (put V be (splice (splice X 5 [.bool false]) 6 [.int .i64 0]))) := by
      show Q _ _
      rw [HQ.out, hs]
      exact ⟨rfl, sv', hE', hFr.trans hF'⟩
    have hl1 : (splice X 5 [.bool false]).length = 13 := by rw [length_splice1 (by omega)]; exact xl
    clear hE' hF' hE hFr HI hxst hX hlen hs
    go_wp2_with fail
    go_end0
    exact HP.out
end Go.Proofs.Qxb6500788a
