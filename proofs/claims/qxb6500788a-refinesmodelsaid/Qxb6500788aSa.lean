import Derived.Test.Qxb6500788aLb
import Derived.StillTailTactics
import Derived.Deep.QuietTactic
import Derived.BigQuiet
import Derived.Deep.RegionHeld
import Derived.Deep.CutRange
import Derived.Laws.ResultCell
import Derived.Laws.Rows
import Derived.DeepKeys
import Derived.DataBytes
import Derived.Laws.StructEq
import Derived.Laws.AppendOwn
import Derived.Laws.MakeOwn
set_option linter.unusedSimpArgs false
set_option linter.unusedVariables false
namespace Go.Proofs.Qxb6500788a
open Go.RowKit Go.Blk
attribute [local go_sem ↓] execOp_load execOp_store execOp_alloc
attribute [local go_sem] Try.ld24 Try.st24 Try.ld25 Try.st25 Try.ld3 Try.st3 Try.ld30 Try.st30 Try.ld36 Try.st36 Try.ld4 Try.st4 Try.ld41 Try.st41 Try.ld50 Try.st50 Try.ld40 Try.st40 Try.ld42 Try.st42 Try.ld89 Try.st89 Try.ld91 Try.st91 Try.ld56 Try.st56 Try.ld97 Try.st97 Try.ld98 Try.st98 Try.ld101 Try.st101 Try.ld104 Try.st104 Try.ld57 Try.st57 Try.ld130 Try.st130 Try.ld2 Try.st2 Try.ld5 Try.st5 Try.ld9 Try.st9 Try.ld12 Try.st12 Try.ld21 Try.st21 Try.ld22 Try.st22 Try.ld29 Try.st29 Try.ld33 Try.st33 Try.ld59 Try.st59 Try.ld62 Try.st62 Try.ld69 Try.st69 Try.ld94 Try.st94 Try.ld96 Try.st96 Try.ld129 Try.st129 Try.ld158 Try.st158 Try.ld162 Try.st162 Try.ld47 Try.st47 Try.ld44 Try.st44 Try.ld137 Try.st137 Try.ld145 Try.st145 Try.ld43 Try.st43 Try.ld27 Try.st27 Try.ld38 Try.st38 Try.ld46 Try.st46 Try.ld49 Try.st49 Try.ld52 Try.st52 Try.ld54 Try.st54 Try.ld61 Try.st61 Try.ld80 Try.st80 Try.ld87 Try.st87 Try.ld93 Try.st93 Try.ld100 Try.st100 Try.ld103 Try.st103 Try.ld106 Try.st106 Try.ld109 Try.st109 Try.ld132 Try.st132 Try.ld147 Try.st147 Try.al47 Try.al44 Try.al137 Try.al145 Try.al43 Try.al27 Try.al38 Try.al46 Try.al49 Try.al52 Try.al54 Try.al61 Try.al80 Try.al87 Try.al93 Try.al100 Try.al103 Try.al106 Try.al109 Try.al132 Try.al147
attribute [local go_sem] GProgram.length_enc GProgram.ok_enc GProgram.all_get GProgram.all_set GProgram.preds_get GProgram.preds_set GProgram.rules_get GProgram.rules_set GProgram.strata_get GProgram.strata_set Answer.length_enc Answer.ok_enc Answer.all_get Answer.all_set Answer.code_get Answer.code_set Answer.n_get Answer.n_set Answer.rows_get Answer.rows_set Term.length_enc Term.ok_enc Term.all_get Term.all_set Term.var_get Term.var_set Term.n_get Term.n_set Atom.length_enc Atom.ok_enc Atom.all_get Atom.all_set Atom.pred_get Atom.pred_set Atom.args_get Atom.args_set GRule.length_enc GRule.ok_enc GRule.all_get GRule.all_set GRule.head_get GRule.head_set GRule.body_get GRule.body_set GRule.head_pred_get GRule.head_pred_set GRule.head_args_get GRule.head_args_set GOp.length_enc GOp.ok_enc GOp.all_get GOp.all_set GOp.kind_get GOp.kind_set GOp.pred_get GOp.pred_set GOp.t_get GOp.t_set GOp.n_get GOp.n_set GOp.base_get GOp.base_set GOp.rule_get GOp.rule_set GOp.rule_head_get GOp.rule_head_set GOp.rule_body_get GOp.rule_body_set GOp.rule_head_pred_get GOp.rule_head_pred_set GOp.rule_head_args_get GOp.rule_head_args_set PredInfo.length_enc PredInfo.ok_enc PredInfo.all_get PredInfo.all_set PredInfo.arity_get PredInfo.arity_set PredInfo.base_get PredInfo.base_set PredInfo.stratum_get PredInfo.stratum_set GStats.length_enc GStats.ok_enc GStats.all_get GStats.all_set GStats.rounds_get GStats.rounds_set GStats.fired_get GStats.fired_set GStats.emitted_get GStats.emitted_set GStats.fresh_get GStats.fresh_set Literal.length_enc Literal.ok_enc Literal.all_get Literal.all_set Literal.neg_get Literal.neg_set Literal.atom_get Literal.atom_set Literal.atom_pred_get Literal.atom_pred_set Literal.atom_args_get Literal.atom_args_set Engine.length_enc Engine.ok_enc Engine.all_get Engine.all_set Engine.prog_get Engine.prog_set Engine.st_get Engine.st_set Engine.levels_get Engine.levels_set Engine.running_get Engine.running_set Engine.stratum_get Engine.stratum_set Engine.round_get Engine.round_set Engine.saved_get Engine.saved_set Engine.stats_get Engine.stats_set Engine.prog_preds_get Engine.prog_preds_set Engine.prog_rules_get Engine.prog_rules_set Engine.prog_strata_get Engine.prog_strata_set Engine.stats_rounds_get Engine.stats_rounds_set Engine.stats_fired_get Engine.stats_fired_set Engine.stats_emitted_get Engine.stats_emitted_set Engine.stats_fresh_get Engine.stats_fresh_set Level.length_enc Level.ok_enc Level.all_get Level.all_set Level.heads_get Level.heads_set Level.jobs_get Level.jobs_set Plan.length_enc Plan.ok_enc Plan.all_get Plan.all_set Plan.rule_get Plan.rule_set Plan.delta_get Plan.delta_set Plan.src_get Plan.src_set Job.length_enc Job.ok_enc Job.all_get Job.all_set Job.full_get Job.full_set Job.deltas_get Job.deltas_set Job.full_rule_get Job.full_rule_set Job.full_delta_get Job.full_delta_set Job.full_src_get Job.full_src_set GState.length_enc GState.ok_enc GState.all_get GState.all_set GState.prog_get GState.prog_set GState.base_get GState.base_set GState.shown_get GState.shown_set GState.prog_preds_get GState.prog_preds_set GState.prog_rules_get GState.prog_rules_set GState.prog_strata_get GState.prog_strata_set Store.length_enc Store.ok_enc Store.all_get Store.all_set Store.arity_get Store.arity_set Store.rows_get Store.rows_set Env.length_enc Env.ok_enc Env.all_get Env.all_set Env.val_get Env.val_set Env.set_get Env.set_set
attribute [local go_sem] size_put size_ext blk_put free_put blk_alloc free_alloc blk_drew free_drew blk_ext free_ext lookOr_some putOr_some segAt_some cellAt_some storeIn_some put_put put_alloc_new length_arr ok_arr_u8 ok_arr_u32 ok_arr_u64 ok_arr_i64 ok_arr_sl cellsV_agg cellsV_int cellsV_bool cellsV_string cellsV_pointer cellsV_slice cellsV_sl ok_int ok_bool ok_string ok_pointer ok_slice ok_sl toList_arr seg_arr set_arr nth_splice nth_splice0 seg_splice seg_splice0 splice_splice splice_splice0 length_splice_if
attribute [local go_sem ↓] execOp_box
attribute [local go_sem] box_run nth_arr_u8 put_arr_u8 blk_drewN free_drewN put_drewN blk_raw free_raw
def sE (aa : Option Addr) (an ac : Nat) (ra : Option Addr) (rn rc : Nat) : List Value := [.slice aa an ac, .slice ra rn rc]
theorem s_len (aa : Option Addr) (an ac : Nat) (ra : Option Addr) (rn rc : Nat) : (sE aa an ac ra rn rc).length = 2 := rfl
theorem s_n0 (aa : Option Addr) (an ac : Nat) (ra : Option Addr) (rn rc : Nat) : nth (sE aa an ac ra rn rc) 0 = some (.slice aa an ac) := rfl
theorem s_n1 (aa : Option Addr) (an ac : Nat) (ra : Option Addr) (rn rc : Nat) : nth (sE aa an ac ra rn rc) 1 = some (.slice ra rn rc) := rfl
theorem s_s0 (aa : Option Addr) (an ac : Nat) (ra : Option Addr) (rn rc : Nat) (a : Option Addr) (n c : Nat) : splice (sE aa an ac ra rn rc) 0 [.slice a n c] = sE a n c ra rn rc := rfl
theorem s_s1 (aa : Option Addr) (an ac : Nat) (ra : Option Addr) (rn rc : Nat) (a : Option Addr) (n c : Nat) : splice (sE aa an ac ra rn rc) 1 [.slice a n c] = sE aa an ac a n c := rfl
def slE (d : Sl) : List Value := [Sl.val d]
theorem slE_len (d : Sl) : (slE d).length = 1 := rfl
theorem slE_one (d : Sl) : (slE d).all (fun v => v.oneCell') = true := rfl
def encI (x : Int) : List Value := [.int .i64 x]
theorem encI_len (x : Int) : (encI x).length = 1 := rfl
theorem encI_one (x : Int) : (encI x).all (fun v => v.oneCell') = true := rfl
/-- The store in memory: its relations' rows S; all its blocks bear labels .a g _. -/
structure SIn (B : Nat) (O : Own) (W : World) (g bst : Nat) (S : List (List Tup)) (aa : Option Addr) (an ac : Nat) (ra : Option Addr) (rn rc : Nat) (ar : List Int) (D : List Sl) : Prop where
  base : B ≤ W.heap.size
  cell : blk W bst = some (sE aa an ac ra rn rc)
  fre : free W bst = true
  own : O bst = .a g 0
  ars : RowL B O (.a g 2) W 3 1 (.slice aa an ac) ar.length (ar.flatMap encI)
  rls : RowL B O (.a g 1) W 36 1 (.slice ra rn rc) D.length (D.flatMap slE)
  len : D.length = S.length
  ok : ∀ (r : Nat) (d : Sl) (L : List Tup), D[r]? = some d → S[r]? = some L → RowL B O (.a g (3 + r)) W 44 4 (.slice d.a d.len d.cap) L.length (L.flatMap tpl)
def SAt (B : Nat) (O : Own) (W : World) (g bst : Nat) (S : List (List Tup)) : Prop := ∃ aa an ac ra rn rc ar D, SIn B O W g bst S aa an ac ra rn rc ar D
def isG (g : Nat) (l : Lab) : Prop := ∃ n, l = .a g n
theorem isG_a (g n : Nat) : isG g (.a g n) := ⟨n, rfl⟩
theorem SAt.keep {B : Nat} {O O' : Own} {W W' : World} {g bst : Nat} {S : List (List Tup)} (h : SAt B O W g bst S) (hsz : W.heap.size ≤ W'.heap.size) (hw : ∀ k, k < W.heap.size → isG g (O k) → W'.heap[k]? = W.heap[k]? ∧ O' k = O k) : SAt B O' W' g bst S := by
  obtain ⟨aa, an, ac, ra, rn, rc, ar, D, h⟩ := h
  have hm := hw bst (blk_lt h.cell) (by rw [h.own]; exact isG_a g 0)
  exact ⟨aa, an, ac, ra, rn, rc, ar, D, Nat.le_trans h.base hsz, (blk_of_heap hm.1).trans h.cell, (free_of_heap hm.1).trans h.fre, hm.2.trans h.own, h.ars.keep (fun k hk ho => hw k hk (by rw [ho]; exact isG_a g 2)), h.rls.keep (fun k hk ho => hw k hk (by rw [ho]; exact isG_a g 1)), h.len, fun r d L hd hL => (h.ok r d L hd hL).keep (fun k hk ho => hw k hk (by rw [ho]; exact isG_a g _))⟩
theorem SAt.ext {B : Nat} {O : Own} {W W' : World} {g bst : Nat} {S : List (List Tup)} (h : SAt B O W g bst S) (he : W.Extends W') : SAt B O W' g bst S := h.keep he.size (fun k hk _ => ⟨he.block k hk, rfl⟩)
theorem SAt.relab {B : Nat} {O O' : Own} {W : World} {g bst : Nat} {S : List (List Tup)} (h : SAt B O W g bst S) (hk : ∀ k, k < W.heap.size → O' k = O k) : SAt B O' W g bst S := h.keep (Nat.le_refl _) (fun k hk' _ => ⟨rfl, hk k hk'⟩)
theorem SAt.fr {L : Lab → Prop} {B : Nat} {O O' : Own} {W W' : World} {g bst : Nat} {S : List (List Tup)} (h : SAt B O W g bst S) (hf : Fr L O W O' W') (hl : ∀ l, isG g l → ¬ L l) : SAt B O' W' g bst S := h.keep hf.size (fun k hk hm => ⟨hf.block k hk (hl _ hm), hf.keep k hk⟩)
/-- What a call on the store leaves. -/
def SOut (B : Nat) (O : Own) (W : World) (g bst : Nat) (S' : List (List Tup)) (W' : World) : Prop := ∃ O', Fr (isG g) O W O' W' ∧ SAt B O' W' g bst S'
theorem sout_same {B : Nat} {O : Own} {W W' : World} {g bst : Nat} {S : List (List Tup)} (h : SAt B O W g bst S) (he : W.Extends W') : SOut B O W g bst S W' := ⟨O, Fr.of_extends he, h.ext he⟩
theorem sat_bad {B : Nat} {O : Own} {W : World} {g bst : Nat} {S : List (List Tup)} (h : SAt B O W g bst S) : ∃ aa an ac ra rn rc, blk W bst = some (sE aa an ac ra rn rc) ∧ rn = S.length := by
  obtain ⟨aa, an, ac, ra, rn, rc, ar, D, h⟩ := h
  exact ⟨aa, an, ac, ra, rn, rc, h.cell, by rw [← h.len]; exact ((h.rls.rw slE_len).1.1).symm⟩
/-- Relation r, opened. -/
structure Ops (W : World) (bst : Nat) (S : List (List Tup)) (r : Nat) (L : List Tup) (aa : Option Addr) (an ac gr rn rc : Nat) (Cr : List Value) (ta : Option Addr) (tn tc : Nat) : Prop where
  hb : blk W bst = some (sE aa an ac (some ⟨gr, 0, none⟩) rn rc)
  hrn : rn = S.length
  hr : r < rn
  bc : blk W gr = some Cr
  len : r + 1 ≤ Cr.length
  cl : nth Cr r = some (.slice ta tn tc)
  rows : Rw tpl 4 W ta tn L
theorem Ops.ext {W W' : World} {bst : Nat} {S : List (List Tup)} {r : Nat} {L : List Tup} {aa : Option Addr} {an ac gr rn rc : Nat} {Cr : List Value} {ta : Option Addr} {tn tc : Nat} (h : Ops W bst S r L aa an ac gr rn rc Cr ta tn tc) (he : W.Extends W') : Ops W' bst S r L aa an ac gr rn rc Cr ta tn tc :=
  ⟨(he.blk (blk_lt h.hb)).trans h.hb, h.hrn, h.hr, (he.blk (blk_lt h.bc)).trans h.bc, h.len, h.cl, h.rows.ext' he⟩
theorem heap_putN {w : World} {g : Nat} {C D : List Value} {ty : TypeId} (h : w.heap[g]? = some (.cells C.toArray ty (0, 0))) : (put w g D).heap[g]? = some (.cells D.toArray ty (0, 0)) := by
  rw [heap_put, if_pos rfl, h]; rfl
/-- Relation r, opened, and how its rows are changed. -/
theorem sat_open {B : Nat} {O : Own} {W : World} {g bst : Nat} {S : List (List Tup)} (h : SAt B O W g bst S) {r : Nat} {L : List Tup} (hL : S[r]? = some L) :
    ∃ aa an ac gr rn rc Cr ta tn tc, Ops W bst S r L aa an ac gr rn rc Cr ta tn tc ∧ B ≤ W.heap.size ∧ O gr = .a g 1 ∧ O bst = .a g 0 ∧ RowL B O (.a g (3 + r)) W 44 4 (.slice ta tn tc) L.length (L.flatMap tpl) ∧
      ∀ O1 W1 ta' tn' tc' L', Fr (fun l => l = .a g (3 + r)) O W O1 W1 → RowL B O1 (.a g (3 + r)) W1 44 4 (.slice ta' tn' tc') L'.length (L'.flatMap tpl) → blk W1 bst = some (sE aa an ac (some ⟨gr, 0, none⟩) rn rc) ∧ blk W1 gr = some Cr ∧ free W1 gr = true ∧ SOut B O W g bst (S.set r L') (put W1 gr (splice Cr r [.slice ta' tn' tc'])) := by
  obtain ⟨aa, an, ac, ra, rn, rc, ar, D, h⟩ := h
  have hi : r < S.length := (List.getElem?_eq_some_iff.1 hL).1
  obtain ⟨d, hd⟩ : ∃ d, D[r]? = some d := ⟨_, List.getElem?_eq_getElem (by rw [h.len]; exact hi)⟩
  have hDn : D.length = rn := (h.rls.rw slE_len).1.1
  have hlen := h.len
  obtain ⟨gr, Cr, e1, e2, e3, e4, e5, e6, e7, e8⟩ := h.rls.openT slE_len (by omega)
  subst e1
  have hok := h.ok r d L hd hL
  have hsg := e7 r d hd
  rw [Nat.mul_one] at hsg
  have hcl : nth Cr r = some (.slice d.a d.len d.cap) := nth_in (j := 0) hsg rfl (by omega)
  refine ⟨aa, an, ac, gr, rn, rc, Cr, d.a, d.len, d.cap, ⟨h.cell, by omega, by omega, blk_mk e2, by omega, hcl, (hok.rw tpl_len).1⟩, h.base, e4, h.own, hok, fun O1 W1 ta' tn' tc' L' hf hrow => ?_⟩
  have hne : ∀ n, n ≠ 3 + r → ¬ ((.a g n : Lab) = .a g (3 + r)) := fun n hn e => by injection e with _ e; exact hn e
  have ht1 : W1.heap[gr]? = some (.cells Cr.toArray 36 (0, 0)) := (hf.block gr (Array.getElem?_eq_some_iff.1 e2).1 (by rw [e4]; exact hne 1 (by omega))).trans e2
  have ho1 : O1 gr = .a g 1 := (hf.keep gr (Array.getElem?_eq_some_iff.1 e2).1).trans e4
  have hb1 : blk W1 bst = some (sE aa an ac (some ⟨gr, 0, none⟩) rn rc) := hf.blk h.cell (by rw [h.own]; exact hne 0 (by omega))
  have hf1 : free W1 bst = true := hf.free h.cell h.fre (by rw [h.own]; exact hne 0 (by omega))
  have hob1 : O1 bst = .a g 0 := (hf.keep bst (blk_lt h.cell)).trans h.own
  have hnb : ¬ bst = gr := fun e => by rw [e, ho1] at hob1; injection hob1 with _ e; cases e
  have hF : Fr (isG g) O W O1 (put W1 gr (splice Cr r [.slice ta' tn' tc'])) := (hf.mono (fun l e => by rw [e]; exact isG_a g _)).put (by rw [ho1]; exact isG_a g 1) _
  have hk : ∀ n, n ≠ 1 → n ≠ 3 + r → ∀ k, k < W.heap.size → O k = .a g n → (put W1 gr (splice Cr r [.slice ta' tn' tc'])).heap[k]? = W.heap[k]? ∧ O1 k = O k := fun n h1 h3 k hk' ho => by
    have hkk := hf.keep k hk'
    refine ⟨?_, hkk⟩
    rw [heap_put, if_neg (fun e => by rw [e] at hkk ho; rw [← hkk, ho1] at ho; injection ho with _ e; exact h1 e.symm)]
    exact hf.block k hk' (by rw [ho]; exact hne n h3)
  refine ⟨hb1, blk_mk ht1, free_mk ht1, O1, hF, aa, an, ac, some ⟨gr, 0, none⟩, rn, rc, ar, D.set r ⟨ta', tn', tc'⟩, Nat.le_trans h.base hF.size, by rw [blk_put, if_neg hnb]; exact hb1, by rw [free_put]; exact hf1, hob1, h.ars.keep (hk 2 (by omega) (by omega)), ?_, by simp [h.len], ?_⟩
  · refine e8 O1 _ _ _ (heap_putN ht1) (length_splice1 (by omega)) (by simp) (fun j x hx => ?_) ho1
    rw [Nat.mul_one]
    rw [List.getElem?_set] at hx
    by_cases hij : r = j
    · subst hij
      rw [if_pos rfl, if_pos (by omega)] at hx
      have s1 := seg_splice_in (C := Cr) (p := r) (n := 1) (D := slE d) (j := 0) (v := .slice ta' tn' tc') hsg (by omega) (by omega)
      rw [Nat.add_zero] at s1
      rw [s1, ← Option.some.inj hx]; rfl
    · rw [if_neg hij] at hx
      rw [seg_splice_off (by omega) (by omega)]
      have := e7 j x hx
      rwa [Nat.mul_one] at this
  · intro j d2 L2 hd2 hL2
    rw [List.getElem?_set] at hd2 hL2
    by_cases hij : r = j
    · subst hij
      rw [if_pos rfl, if_pos (by omega)] at hd2
      rw [if_pos rfl, if_pos hi] at hL2
      rw [← Option.some.inj hd2, ← Option.some.inj hL2]
      exact hrow.keep (fun k hk' ho => ⟨by rw [heap_put, if_neg (fun e => by rw [e, ho1] at ho; injection ho with _ e; omega)], rfl⟩)
    · rw [if_neg hij] at hd2 hL2
      exact (h.ok j d2 L2 hd2 hL2).keep (hk (3 + j) (by omega) (by omega))
end Go.Proofs.Qxb6500788a
