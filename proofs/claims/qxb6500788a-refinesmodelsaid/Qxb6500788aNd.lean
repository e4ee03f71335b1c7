import Derived.Test.Qxb6500788aNc
import Derived.StillTailTactics
import Derived.Deep.QuietTactic
import Derived.BigQuiet
import Derived.Deep.RegionHeld
import Derived.Deep.CutRange
import Derived.Laws.ResultCell
import Derived.Laws.Rows
import Derived.DeepKeys
import Derived.DataBytes
import Derived.Laws.StructEq
import Derived.Laws.AppendOwn
import Derived.Laws.MakeOwn
set_option linter.unusedSimpArgs false
set_option linter.unusedVariables false
namespace Go.Proofs.Qxb6500788a
open Go.RowKit Go.Blk
attribute [local go_sem ↓] execOp_load execOp_store execOp_alloc
attribute [local go_sem] Try.ld24 Try.st24 Try.ld25 Try.st25 Try.ld3 Try.st3 Try.ld30 Try.st30 Try.ld36 Try.st36 Try.ld4 Try.st4 Try.ld41 Try.st41 Try.ld50 Try.st50 Try.ld40 Try.st40 Try.ld42 Try.st42 Try.ld89 Try.st89 Try.ld91 Try.st91 Try.ld56 Try.st56 Try.ld97 Try.st97 Try.ld98 Try.st98 Try.ld101 Try.st101 Try.ld104 Try.st104 Try.ld57 Try.st57 Try.ld130 Try.st130 Try.ld2 Try.st2 Try.ld5 Try.st5 Try.ld9 Try.st9 Try.ld12 Try.st12 Try.ld21 Try.st21 Try.ld22 Try.st22 Try.ld29 Try.st29 Try.ld33 Try.st33 Try.ld59 Try.st59 Try.ld62 Try.st62 Try.ld69 Try.st69 Try.ld94 Try.st94 Try.ld96 Try.st96 Try.ld129 Try.st129 Try.ld158 Try.st158 Try.ld162 Try.st162 Try.ld47 Try.st47 Try.ld44 Try.st44 Try.ld137 Try.st137 Try.ld145 Try.st145 Try.ld43 Try.st43 Try.ld27 Try.st27 Try.ld38 Try.st38 Try.ld46 Try.st46 Try.ld49 Try.st49 Try.ld52 Try.st52 Try.ld54 Try.st54 Try.ld61 Try.st61 Try.ld80 Try.st80 Try.ld87 Try.st87 Try.ld93 Try.st93 Try.ld100 Try.st100 Try.ld103 Try.st103 Try.ld106 Try.st106 Try.ld109 Try.st109 Try.ld132 Try.st132 Try.ld147 Try.st147 Try.al47 Try.al44 Try.al137 Try.al145 Try.al43 Try.al27 Try.al38 Try.al46 Try.al49 Try.al52 Try.al54 Try.al61 Try.al80 Try.al87 Try.al93 Try.al100 Try.al103 Try.al106 Try.al109 Try.al132 Try.al147
attribute [local go_sem] GProgram.length_enc GProgram.ok_enc GProgram.all_get GProgram.all_set GProgram.preds_get GProgram.preds_set GProgram.rules_get GProgram.rules_set GProgram.strata_get GProgram.strata_set Answer.length_enc Answer.ok_enc Answer.all_get Answer.all_set Answer.code_get Answer.code_set Answer.n_get Answer.n_set Answer.rows_get Answer.rows_set Term.length_enc Term.ok_enc Term.all_get Term.all_set Term.var_get Term.var_set Term.n_get Term.n_set Atom.length_enc Atom.ok_enc Atom.all_get Atom.all_set Atom.pred_get Atom.pred_set Atom.args_get Atom.args_set GRule.length_enc GRule.ok_enc GRule.all_get GRule.all_set GRule.head_get GRule.head_set GRule.body_get GRule.body_set GRule.head_pred_get GRule.head_pred_set GRule.head_args_get GRule.head_args_set GOp.length_enc GOp.ok_enc GOp.all_get GOp.all_set GOp.kind_get GOp.kind_set GOp.pred_get GOp.pred_set GOp.t_get GOp.t_set GOp.n_get GOp.n_set GOp.base_get GOp.base_set GOp.rule_get GOp.rule_set GOp.rule_head_get GOp.rule_head_set GOp.rule_body_get GOp.rule_body_set GOp.rule_head_pred_get GOp.rule_head_pred_set GOp.rule_head_args_get GOp.rule_head_args_set PredInfo.length_enc PredInfo.ok_enc PredInfo.all_get PredInfo.all_set PredInfo.arity_get PredInfo.arity_set PredInfo.base_get PredInfo.base_set PredInfo.stratum_get PredInfo.stratum_set GStats.length_enc GStats.ok_enc GStats.all_get GStats.all_set GStats.rounds_get GStats.rounds_set GStats.fired_get GStats.fired_set GStats.emitted_get GStats.emitted_set GStats.fresh_get GStats.fresh_set Literal.length_enc Literal.ok_enc Literal.all_get Literal.all_set Literal.neg_get Literal.neg_set Literal.atom_get Literal.atom_set Literal.atom_pred_get Literal.atom_pred_set Literal.atom_args_get Literal.atom_args_set Engine.length_enc Engine.ok_enc Engine.all_get Engine.all_set Engine.prog_get Engine.prog_set Engine.st_get Engine.st_set Engine.levels_get Engine.levels_set Engine.running_get Engine.running_set Engine.stratum_get Engine.stratum_set Engine.round_get Engine.round_set Engine.saved_get Engine.saved_set Engine.stats_get Engine.stats_set Engine.prog_preds_get Engine.prog_preds_set Engine.prog_rules_get Engine.prog_rules_set Engine.prog_strata_get Engine.prog_strata_set Engine.stats_rounds_get Engine.stats_rounds_set Engine.stats_fired_get Engine.stats_fired_set Engine.stats_emitted_get Engine.stats_emitted_set Engine.stats_fresh_get Engine.stats_fresh_set Level.length_enc Level.ok_enc Level.all_get Level.all_set Level.heads_get Level.heads_set Level.jobs_get Level.jobs_set Plan.length_enc Plan.ok_enc Plan.all_get Plan.all_set Plan.rule_get Plan.rule_set Plan.delta_get Plan.delta_set Plan.src_get Plan.src_set Job.length_enc Job.ok_enc Job.all_get Job.all_set Job.full_get Job.full_set Job.deltas_get Job.deltas_set Job.full_rule_get Job.full_rule_set Job.full_delta_get Job.full_delta_set Job.full_src_get Job.full_src_set GState.length_enc GState.ok_enc GState.all_get GState.all_set GState.prog_get GState.prog_set GState.base_get GState.base_set GState.shown_get GState.shown_set GState.prog_preds_get GState.prog_preds_set GState.prog_rules_get GState.prog_rules_set GState.prog_strata_get GState.prog_strata_set Store.length_enc Store.ok_enc Store.all_get Store.all_set Store.arity_get Store.arity_set Store.rows_get Store.rows_set Env.length_enc Env.ok_enc Env.all_get Env.all_set Env.val_get Env.val_set Env.set_get Env.set_set
attribute [local go_sem] size_put size_ext blk_put free_put blk_alloc free_alloc blk_drew free_drew blk_ext free_ext lookOr_some putOr_some segAt_some cellAt_some storeIn_some put_put put_alloc_new length_arr ok_arr_u8 ok_arr_u32 ok_arr_u64 ok_arr_i64 ok_arr_sl cellsV_agg cellsV_int cellsV_bool cellsV_string cellsV_pointer cellsV_slice cellsV_sl ok_int ok_bool ok_string ok_pointer ok_slice ok_sl toList_arr seg_arr set_arr nth_splice nth_splice0 seg_splice seg_splice0 splice_splice splice_splice0 length_splice_if
attribute [local go_sem ↓] execOp_box
attribute [local go_sem] box_run nth_arr_u8 put_arr_u8 blk_drewN free_drewN put_drewN blk_raw free_raw
theorem bslice130 (w : World) (v : Int) : (bsliceOp 130 1 #[(0, .int .i64 v)]).run Try.prog w = .ok (.value (.slice (some ⟨w.heap.size, 0, none⟩) 1 1)) (w.alloc (.cells (encI v).toArray 3)) := by kernel_rfl
theorem bslice56 (w : World) : (bsliceOp 56 1 #[(0, .slice none 0 0)]).run Try.prog w = .ok (.value (.slice (some ⟨w.heap.size, 0, none⟩) 1 1)) (w.alloc (.cells (slE ⟨none, 0, 0⟩).toArray 36)) := by kernel_rfl
theorem bslice97 (w : World) (v : Int) : (bsliceOp 97 1 #[(0, .int .i64 v)]).run Try.prog w = .ok (.value (.slice (some ⟨w.heap.size, 0, none⟩) 1 1)) (w.alloc (.cells (encI v).toArray 41)) := by kernel_rfl
theorem bslice98_lit (w : World) (x0 x1 x2 x3 : Value) : (bsliceOp 98 1 #[(0, .agg #[x0, x1, x2, x3])]).run Try.prog w = .ok (.value (.slice (some ⟨w.heap.size, 0, none⟩) 1 1)) (w.alloc (.cells #[x0, x1, x2, x3] 106)) := by kernel_rfl
theorem bslice98 (w : World) (x : Job) : (bsliceOp 98 1 #[(0, .agg x.enc.toArray)]).run Try.prog w = .ok (.value (.slice (some ⟨w.heap.size, 0, none⟩) 1 1)) (w.alloc (.cells x.enc.toArray 106)) := bslice98_lit w _ _ _ _
theorem rep_cells (n : Nat) (C : List Value) (hl : C.length = n) (h : ∀ k, k < n → nth C k = some (.slice none 0 0)) : C = List.replicate n (.slice none 0 0) := by
  apply List.ext_getElem?
  intro i
  rw [List.getElem?_replicate]
  by_cases hi : i < n
  · rw [if_pos hi]; exact h i hi
  · rw [if_neg hi, List.getElem?_eq_none (by omega)]
theorem make91 (w : World) (n : Nat) (hn : n ≤ 100) : (makeOp 91 (.int .i64 (n : Int)) (.int .i64 (n : Int))).run Try.prog w = .ok (.value (.slice (some ⟨w.heap.size, 0, none⟩) n n)) (w.alloc (.cells (List.replicate (n * 2) (Value.slice none 0 0)).toArray 100)) := by
  obtain ⟨i, hi, hz, hsz, hby⟩ : ∃ i, Try.prog.info? 100 = some i ∧ i.zero = some (.agg #[.slice none 0 0, .slice none 0 0]) ∧ i.size = 2 ∧ i.bytes = 48 := by
    have hq : (Try.prog.info? 100).map (fun i => (i.zero, i.size, i.bytes)) = some (some (.agg #[.slice none 0 0, .slice none 0 0]), 2, 48) := by kernel_rfl
    cases hx : Try.prog.info? 100 with
    | none => rw [hx] at hq; simp at hq
    | some i =>
      rw [hx] at hq
      simp only [Option.map_some, Option.some.injEq, Prod.mk.injEq] at hq
      exact ⟨i, rfl, hq.1, hq.2.1, hq.2.2⟩
  have hr := run_make (P := Try.prog) w 91 100 i _ Try.underlying91 hi hz .i64 .i64 (n : Int) (n : Int) (by omega) (by omega) (by rw [hby]; omega) (by omega)
  have hC := rep_cells (n * 2) (madeCells (Value.agg #[.slice none 0 0, .slice none 0 0]).cells (n * 2)).toList (by rw [Array.length_toList, size_madeCells]) (fun k hk => by
    unfold nth madeCells
    have h2 : k % 2 = 0 ∨ k % 2 = 1 := by omega
    rw [Array.getElem?_toList, Array.getElem?_map, Array.getElem?_range]
    simp only [hk, if_true, Option.map_some]
    rcases h2 with h | h <;> simp [Value.cells, h])
  rw [← hC]
  unfold makeOp
  rw [Sem.run_bind, hr, hsz, Int.toNat_natCast, Array.toArray_toList]
  rfl
theorem make56 (w : World) (n : Nat) (hn : n ≤ 100) : (makeOp 56 (.int .i64 (n : Int)) (.int .i64 (n : Int))).run Try.prog w = .ok (.value (.slice (some ⟨w.heap.size, 0, none⟩) n n)) (w.alloc (.cells (List.replicate n (Value.slice none 0 0)).toArray 36)) := by
  obtain ⟨i, hi, hz, hsz, hby⟩ : ∃ i, Try.prog.info? 36 = some i ∧ i.zero = some (.slice none 0 0) ∧ i.size = 1 ∧ i.bytes = 24 := by
    have hq : (Try.prog.info? 36).map (fun i => (i.zero, i.size, i.bytes)) = some (some (.slice none 0 0), 1, 24) := by kernel_rfl
    cases hx : Try.prog.info? 36 with
    | none => rw [hx] at hq; simp at hq
    | some i =>
      rw [hx] at hq
      simp only [Option.map_some, Option.some.injEq, Prod.mk.injEq] at hq
      exact ⟨i, rfl, hq.1, hq.2.1, hq.2.2⟩
  have hr := run_make (P := Try.prog) w 56 36 i _ Try.underlying56 hi hz .i64 .i64 (n : Int) (n : Int) (by omega) (by omega) (by rw [hby]; omega) (by omega)
  have hC := rep_cells n (madeCells (Value.slice none 0 0).cells (n * 1)).toList (by rw [Array.length_toList, size_madeCells, Nat.mul_one]) (fun k hk => by
    unfold nth madeCells
    rw [Array.getElem?_toList, Array.getElem?_map, Array.getElem?_range]
    simp only [Nat.mul_one, hk, if_true, Option.map_some]
    simp [Value.cells, Nat.mod_one])
  rw [← hC]
  unfold makeOp
  rw [Sem.run_bind, hr, hsz, Int.toNat_natCast, Array.toArray_toList]
  rfl
theorem own_made (V : World) (B : Nat) (e : TypeId) (sz n : Nat) (xs : List Value) (hx : xs.length = n * sz) (hB : B ≤ V.heap.size) (hn : n ≤ 100) : (V.alloc (.cells xs.toArray e)).ownsRow B e sz (.slice (some ⟨V.heap.size, 0, none⟩) n n) n xs := by
  refine ⟨hx, .inr ⟨V.heap.size, n, xs.toArray, rfl, hB, ?_, Nat.le_refl _, by simp only [maxLen]; omega, by simp; exact hx, ?_⟩⟩
  · rw [heap_alloc, if_pos rfl]
  · rw [List.take_of_length_le (by simp; omega)]
attribute [local go_sem] s_len s_n0 s_n1 s_s0 s_s1 bslice130 bslice56
attribute [local go_sem ↓] execOp_bslice execOp_build
set_option maxRecDepth 20000 in
theorem newStore_x (w : World) : Calls Try.prog 42 #[] w fun e w' => e = .returned (.pointer (some ⟨w.heap.size, 0, none⟩)) ∧ w' = w.alloc (.cells (sE none 0 0 none 0 0).toArray 132) := by
  have hb : (buildOp 132 #[]).run Try.prog w = .ok (.value (.agg (sE none 0 0 none 0 0).toArray)) w := by kernel_rfl
  go_enter Try.func42, Try.ntmps42
  go_wp2_with fail
  go_ret
  exact ⟨rfl, rfl⟩
/-- The store while it is laid out: as many arities as relations. -/
def SAtN (B : Nat) (O : Own) (W : World) (g bst : Nat) (S : List (List Tup)) : Prop := ∃ aa an ac ra rn rc ar D, SIn B O W g bst S aa an ac ra rn rc ar D ∧ ar.length = S.length
theorem SAtN.at {B : Nat} {O : Own} {W : World} {g bst : Nat} {S : List (List Tup)} (h : SAtN B O W g bst S) : SAt B O W g bst S := by
  obtain ⟨aa, an, ac, ra, rn, rc, ar, D, h, _⟩ := h
  exact ⟨aa, an, ac, ra, rn, rc, ar, D, h⟩
theorem SAtN.keep {B : Nat} {O O' : Own} {W W' : World} {g bst : Nat} {S : List (List Tup)} (h : SAtN B O W g bst S) (hsz : W.heap.size ≤ W'.heap.size) (hw : ∀ k, k < W.heap.size → isG g (O k) → W'.heap[k]? = W.heap[k]? ∧ O' k = O k) : SAtN B O' W' g bst S := by
  obtain ⟨aa, an, ac, ra, rn, rc, ar, D, h, hl⟩ := h
  have hm := hw bst (blk_lt h.cell) (by rw [h.own]; exact isG_a g 0)
  exact ⟨aa, an, ac, ra, rn, rc, ar, D, ⟨Nat.le_trans h.base hsz, (blk_of_heap hm.1).trans h.cell, (free_of_heap hm.1).trans h.fre, hm.2.trans h.own, h.ars.keep (fun k hk ho => hw k hk (by rw [ho]; exact isG_a g 2)), h.rls.keep (fun k hk ho => hw k hk (by rw [ho]; exact isG_a g 1)), h.len, fun r d L hd hL => (h.ok r d L hd hL).keep (fun k hk ho => hw k hk (by rw [ho]; exact isG_a g _))⟩, hl⟩
theorem SAtN.fr {L : Lab → Prop} {B : Nat} {O O' : Own} {W W' : World} {g bst : Nat} {S : List (List Tup)} (h : SAtN B O W g bst S) (hf : Fr L O W O' W') (hl : ∀ l, isG g l → ¬ L l) : SAtN B O' W' g bst S := h.keep hf.size (fun k hk hm => ⟨hf.block k hk (hl _ hm), hf.keep k hk⟩)
theorem SAtN.ext {B : Nat} {O : Own} {W W' : World} {g bst : Nat} {S : List (List Tup)} (h : SAtN B O W g bst S) (he : W.Extends W') : SAtN B O W' g bst S := h.keep he.size (fun k hk _ => ⟨he.block k hk, rfl⟩)
theorem lab_ne {g a b : Nat} (h : a ≠ b) : ¬ ((Lab.a g a) = .a g b) := fun e => by injection e with _ e; exact h e
set_option maxRecDepth 20000 in
set_option maxHeartbeats 2000000 in
theorem define_x (B : Nat) (O : Own) (W : World) (g bst : Nat) (S : List (List Tup)) (h : SAtN B O W g bst S) (hl : S.length ≤ 1000) (ar0 : Int) : Calls Try.prog 43 #[.pointer (some ⟨bst, 0, none⟩), .int .i64 ar0] W fun e W' => (∃ v, e = .returned v) ∧ ∃ O', Fr (isG g) O W O' W' ∧ SAtN B O' W' g bst (S ++ [[]]) := by
  obtain ⟨aa, an, ac, ra, rn, rc, ar, D, h, har⟩ := h
  have han : an = ar.length := (h.ars.rw encI_len).1.1.symm
  have hrn : rn = D.length := (h.rls.rw slE_len).1.1.symm
  have hDl := h.len
  have hal : ar.length ≤ 10000000000 := by omega
  obtain ⟨a1, c1, W2, hrun1, hrow1, hfr1⟩ := appL encI 1 8 130 3 Try.underlying130 info3 encI_len encI_one (by omega) (by omega) 130 ar0 h.ars h.base hal (encI ar0).toArray rfl 1
  obtain ⟨O2, hO2⟩ : ∃ O2, O2 = lab O W.heap.size (.a g 2) := ⟨_, rfl⟩
  rw [← hO2] at hrow1 hfr1
  have hb2 : blk W2 bst = some (sE aa an ac ra rn rc) := hfr1.blk h.cell (by rw [h.own]; exact lab_ne (by omega))
  have hf2 : free W2 bst = true := hfr1.free h.cell h.fre (by rw [h.own]; exact lab_ne (by omega))
  have ho2 : O2 bst = .a g 0 := (hfr1.keep bst (blk_lt h.cell)).trans h.own
  obtain ⟨W3, hW3⟩ : ∃ W3, W3 = put W2 bst (sE a1 (an + 1) c1 ra rn rc) := ⟨_, rfl⟩
  have hfr3 : Fr (fun l => l = .a g 0) O2 W2 O2 W3 := by rw [hW3]; exact (Fr.refl (fun l => l = Lab.a g 0) O2 W2).put ho2 _
  have hb3 : blk W3 bst = some (sE a1 (an + 1) c1 ra rn rc) := by rw [hW3, blk_put, if_pos rfl, hb2]; rfl
  have hf3 : free W3 bst = true := by rw [hW3, free_put]; exact hf2
  have hrls3 : RowL B O2 (.a g 1) W3 36 1 (.slice ra rn rc) D.length (D.flatMap slE) := (h.rls.fr hfr1 (lab_ne (by omega))).fr hfr3 (lab_ne (by omega))
  have hB3 : B ≤ W3.heap.size := Nat.le_trans h.base (Nat.le_trans hfr1.size hfr3.size)
  obtain ⟨a2, c2, W5, hrun2, hrow2, hfr5⟩ := appL slE 1 24 56 36 Try.underlying56 info36 slE_len slE_one (by omega) (by omega) 56 (⟨none, 0, 0⟩ : Sl) hrls3 hB3 (by omega) (slE ⟨none, 0, 0⟩).toArray rfl 1
  obtain ⟨O5, hO5⟩ : ∃ O5, O5 = lab O2 W3.heap.size (.a g 1) := ⟨_, rfl⟩
  rw [← hO5] at hrow2 hfr5
  have hb5 : blk W5 bst = some (sE a1 (an + 1) c1 ra rn rc) := hfr5.blk hb3 (by rw [ho2]; exact lab_ne (by omega))
  have hf5 : free W5 bst = true := hfr5.free hb3 hf3 (by rw [ho2]; exact lab_ne (by omega))
  have ho5 : O5 bst = .a g 0 := (hfr5.keep bst (blk_lt hb3)).trans ho2
  have hfr6 : Fr (fun l => l = .a g 0) O5 W5 O5 (put W5 bst (sE a1 (an + 1) c1 a2 (rn + 1) c2)) := (Fr.refl (fun l => l = Lab.a g 0) O5 W5).put ho5 _
  have HF : Hid (∃ O', Fr (isG g) O W O' (put W5 bst (sE a1 (an + 1) c1 a2 (rn + 1) c2)) ∧ SAtN B O' (put W5 bst (sE a1 (an + 1) c1 a2 (rn + 1) c2)) g bst (S ++ [[]])) := by
    have hG : ∀ n l, l = Lab.a g n → isG g l := fun n l e => by rw [e]; exact isG_a g n
    refine ⟨O5, (hfr1.mono (hG 2)).trans ((hfr3.mono (hG 0)).trans ((hfr5.mono (hG 1)).trans (hfr6.mono (hG 0)))), a1, an + 1, c1, a2, rn + 1, c2, ar ++ [ar0], D ++ [⟨none, 0, 0⟩], ⟨Nat.le_trans hB3 (Nat.le_trans hfr5.size hfr6.size), by rw [blk_put, if_pos rfl, hb5]; rfl, by rw [free_put]; exact hf5, ho5, ((hrow1.fr hfr3 (lab_ne (by omega))).fr hfr5 (lab_ne (by omega))).fr hfr6 (lab_ne (by omega)), hrow2.fr hfr6 (lab_ne (by omega)), by rw [List.length_append, List.length_append, hDl]; rfl, fun r d L hd hL => ?_⟩, by rw [List.length_append, List.length_append, har]; rfl⟩
    by_cases hr : r < S.length
    · rw [List.getElem?_append_left (by omega)] at hd
      rw [List.getElem?_append_left hr] at hL
      exact ((((h.ok r d L hd hL).fr hfr1 (lab_ne (by omega))).fr hfr3 (lab_ne (by omega))).fr hfr5 (lab_ne (by omega))).fr hfr6 (lab_ne (by omega))
    · have h1 := (List.getElem?_eq_some_iff.1 hL).1
      rw [List.length_append, List.length_singleton] at h1
      obtain rfl : r = S.length := by omega
      rw [List.getElem?_append_right (Nat.le_refl _), Nat.sub_self] at hL
      rw [List.getElem?_append_right (by omega), hDl, Nat.sub_self] at hd
      have e1 : ([] : List Tup) = L := Option.some.inj hL
      have e2 : (⟨none, 0, 0⟩ : Sl) = d := Option.some.inj hd
      subst e1 e2
      exact RowL.nil _ _ _ _ _ _
  have lb := blk_lt h.cell
  have lb3 := blk_lt hb3
  have nb : ¬ bst = W.heap.size := by omega
  have nb3 : ¬ bst = W3.heap.size := by omega
  have hb := h.cell
  have hf := h.fre
  clear h hrow1 hfr1 hrow2 hfr5 hfr3 hfr6 hrls3 hO2 hO5 ho2 ho5 hB3 han hrn hDl hal har
  go_enter Try.func43, Try.ntmps43
  go_upto_region 2 with (at_builtin; refine wpList_append_run rfl _ _ 130 rfl _ _ _ _ rfl rfl hrun1 ?_)
  rw [← hW3]
  clear hrun1 hW3 hb2 hf2 hb hf
  go_wp2_with (at_builtin; refine wpList_append_run rfl _ _ 56 rfl _ _ _ _ rfl rfl hrun2 ?_)
  go_ret
  exact ⟨⟨_, rfl⟩, HF.out⟩
end Go.Proofs.Qxb6500788a
