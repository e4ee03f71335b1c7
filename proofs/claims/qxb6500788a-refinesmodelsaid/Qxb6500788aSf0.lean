import Derived.Test.Qxb6500788aRd4
import Derived.StillTailTactics
import Derived.Deep.QuietTactic
import Derived.BigQuiet
import Derived.Deep.RegionHeld
import Derived.Deep.CutRange
import Derived.Laws.ResultCell
import Derived.Laws.Rows
import Derived.DeepKeys
import Derived.DataBytes
import Derived.Laws.StructEq
import Derived.Laws.AppendOwn
set_option linter.unusedSimpArgs false
set_option linter.unusedVariables false
namespace Go.Proofs.Qxb6500788a
open Go.RowKit Go.Blk
attribute [local go_sem ↓] execOp_load execOp_store execOp_alloc
attribute [local go_sem] Try.ld24 Try.st24 Try.ld25 Try.st25 Try.ld3 Try.st3 Try.ld30 Try.st30 Try.ld36 Try.st36 Try.ld4 Try.st4 Try.ld41 Try.st41 Try.ld50 Try.st50 Try.ld40 Try.st40 Try.ld42 Try.st42 Try.ld89 Try.st89 Try.ld91 Try.st91 Try.ld56 Try.st56 Try.ld97 Try.st97 Try.ld98 Try.st98 Try.ld101 Try.st101 Try.ld104 Try.st104 Try.ld57 Try.st57 Try.ld130 Try.st130 Try.ld2 Try.st2 Try.ld5 Try.st5 Try.ld9 Try.st9 Try.ld12 Try.st12 Try.ld21 Try.st21 Try.ld22 Try.st22 Try.ld29 Try.st29 Try.ld33 Try.st33 Try.ld59 Try.st59 Try.ld62 Try.st62 Try.ld69 Try.st69 Try.ld94 Try.st94 Try.ld96 Try.st96 Try.ld129 Try.st129 Try.ld158 Try.st158 Try.ld162 Try.st162 Try.ld47 Try.st47 Try.ld44 Try.st44 Try.ld137 Try.st137 Try.ld145 Try.st145 Try.ld43 Try.st43 Try.ld27 Try.st27 Try.ld38 Try.st38 Try.ld46 Try.st46 Try.ld49 Try.st49 Try.ld52 Try.st52 Try.ld54 Try.st54 Try.ld61 Try.st61 Try.ld80 Try.st80 Try.ld87 Try.st87 Try.ld93 Try.st93 Try.ld100 Try.st100 Try.ld103 Try.st103 Try.ld106 Try.st106 Try.ld109 Try.st109 Try.ld132 Try.st132 Try.ld147 Try.st147 Try.al47 Try.al44 Try.al137 Try.al145 Try.al43 Try.al27 Try.al38 Try.al46 Try.al49 Try.al52 Try.al54 Try.al61 Try.al80 Try.al87 Try.al93 Try.al100 Try.al103 Try.al106 Try.al109 Try.al132 Try.al147
attribute [local go_sem] GProgram.length_enc GProgram.ok_enc GProgram.all_get GProgram.all_set GProgram.preds_get GProgram.preds_set GProgram.rules_get GProgram.rules_set GProgram.strata_get GProgram.strata_set Answer.length_enc Answer.ok_enc Answer.all_get Answer.all_set Answer.code_get Answer.code_set Answer.n_get Answer.n_set Answer.rows_get Answer.rows_set Term.length_enc Term.ok_enc Term.all_get Term.all_set Term.var_get Term.var_set Term.n_get Term.n_set Atom.length_enc Atom.ok_enc Atom.all_get Atom.all_set Atom.pred_get Atom.pred_set Atom.args_get Atom.args_set GRule.length_enc GRule.ok_enc GRule.all_get GRule.all_set GRule.head_get GRule.head_set GRule.body_get GRule.body_set GRule.head_pred_get GRule.head_pred_set GRule.head_args_get GRule.head_args_set GOp.length_enc GOp.ok_enc GOp.all_get GOp.all_set GOp.kind_get GOp.kind_set GOp.pred_get GOp.pred_set GOp.t_get GOp.t_set GOp.n_get GOp.n_set GOp.base_get GOp.base_set GOp.rule_get GOp.rule_set GOp.rule_head_get GOp.rule_head_set GOp.rule_body_get GOp.rule_body_set GOp.rule_head_pred_get GOp.rule_head_pred_set GOp.rule_head_args_get GOp.rule_head_args_set PredInfo.length_enc PredInfo.ok_enc PredInfo.all_get PredInfo.all_set PredInfo.arity_get PredInfo.arity_set PredInfo.base_get PredInfo.base_set PredInfo.stratum_get PredInfo.stratum_set GStats.length_enc GStats.ok_enc GStats.all_get GStats.all_set GStats.rounds_get GStats.rounds_set GStats.fired_get GStats.fired_set GStats.emitted_get GStats.emitted_set GStats.fresh_get GStats.fresh_set Literal.length_enc Literal.ok_enc Literal.all_get Literal.all_set Literal.neg_get Literal.neg_set Literal.atom_get Literal.atom_set Literal.atom_pred_get Literal.atom_pred_set Literal.atom_args_get Literal.atom_args_set Engine.length_enc Engine.ok_enc Engine.all_get Engine.all_set Engine.prog_get Engine.prog_set Engine.st_get Engine.st_set Engine.levels_get Engine.levels_set Engine.running_get Engine.running_set Engine.stratum_get Engine.stratum_set Engine.round_get Engine.round_set Engine.saved_get Engine.saved_set Engine.stats_get Engine.stats_set Engine.prog_preds_get Engine.prog_preds_set Engine.prog_rules_get Engine.prog_rules_set Engine.prog_strata_get Engine.prog_strata_set Engine.stats_rounds_get Engine.stats_rounds_set Engine.stats_fired_get Engine.stats_fired_set Engine.stats_emitted_get Engine.stats_emitted_set Engine.stats_fresh_get Engine.stats_fresh_set Level.length_enc Level.ok_enc Level.all_get Level.all_set Level.heads_get Level.heads_set Level.jobs_get Level.jobs_set Plan.length_enc Plan.ok_enc Plan.all_get Plan.all_set Plan.rule_get Plan.rule_set Plan.delta_get Plan.delta_set Plan.src_get Plan.src_set Job.length_enc Job.ok_enc Job.all_get Job.all_set Job.full_get Job.full_set Job.deltas_get Job.deltas_set Job.full_rule_get Job.full_rule_set Job.full_delta_get Job.full_delta_set Job.full_src_get Job.full_src_set GState.length_enc GState.ok_enc GState.all_get GState.all_set GState.prog_get GState.prog_set GState.base_get GState.base_set GState.shown_get GState.shown_set GState.prog_preds_get GState.prog_preds_set GState.prog_rules_get GState.prog_rules_set GState.prog_strata_get GState.prog_strata_set Store.length_enc Store.ok_enc Store.all_get Store.all_set Store.arity_get Store.arity_set Store.rows_get Store.rows_set Env.length_enc Env.ok_enc Env.all_get Env.all_set Env.val_get Env.val_set Env.set_get Env.set_set
attribute [local go_sem] size_put size_ext blk_put free_put blk_alloc free_alloc blk_drew free_drew blk_ext free_ext lookOr_some putOr_some segAt_some cellAt_some storeIn_some put_put put_alloc_new length_arr ok_arr_u8 ok_arr_u32 ok_arr_u64 ok_arr_i64 ok_arr_sl cellsV_agg cellsV_int cellsV_bool cellsV_string cellsV_pointer cellsV_slice cellsV_sl ok_int ok_bool ok_string ok_pointer ok_slice ok_sl toList_arr seg_arr set_arr nth_splice nth_splice0 seg_splice seg_splice0 splice_splice splice_splice0 length_splice_if
attribute [local go_sem ↓] execOp_box
attribute [local go_sem] box_run nth_arr_u8 put_arr_u8 blk_drewN free_drewN put_drewN blk_raw free_raw
theorem splice_nth {C : List Value} {o : Nat} {v : Value} (h : o < C.length) (k : Nat) : nth (splice C o [v]) k = if k = o then some v else nth C k := by
  unfold nth splice
  have h1 : (C.take o).length = o := by rw [List.length_take]; omega
  rw [List.append_assoc]
  by_cases hk : k < o
  · rw [if_neg (by omega), List.getElem?_append_left (by omega), List.getElem?_take, if_pos hk]
  · rw [List.getElem?_append_right (by omega), h1]
    by_cases hk2 : k = o
    · subst hk2
      rw [if_pos rfl, Nat.sub_self]
      rfl
    · rw [if_neg hk2, List.getElem?_append_right (by simp; omega), List.getElem?_drop]
      congr 1
      simp
      omega
theorem seg_nth (C : List Value) (o n : Nat) (j : Nat) : (seg C o n)[j]? = if j < n then nth C (o + j) else none := by
  unfold seg nth
  rw [List.getElem?_take, List.getElem?_drop]
theorem seg_splice_off {C : List Value} {o p n : Nat} {v : Value} (h : o < C.length) (hd : o < p ∨ p + n ≤ o) : seg (splice C o [v]) p n = seg C p n := by
  apply List.ext_getElem?
  intro j
  rw [seg_nth, seg_nth]
  split
  · rw [splice_nth h, if_neg (by omega)]
  · rfl
theorem seg_splice_in {C D : List Value} {p n j : Nat} {v : Value} (h : seg C p n = D) (hl : p + n ≤ C.length) (hj : j < n) : seg (splice C (p + j) [v]) p n = splice D j [v] := by
  have hD : D.length = n := by rw [← h]; unfold seg; simp; omega
  apply List.ext_getElem?
  intro k
  rw [seg_nth]
  have e : (splice D j [v])[k]? = nth (splice D j [v]) k := rfl
  rw [e, splice_nth (by omega), splice_nth (by omega)]
  by_cases hk : k < n
  · rw [if_pos hk]
    by_cases hkj : k = j
    · rw [if_pos (by omega), if_pos hkj]
    · rw [if_neg (by omega), if_neg hkj]
      have := seg_nth C p n k
      rw [h, if_pos hk] at this
      exact this.symm
  · rw [if_neg hk, if_neg (by omega)]
    exact (List.getElem?_eq_none (by omega)).symm
theorem length_splice1 {C : List Value} {o : Nat} {v : Value} (h : o < C.length) : (splice C o [v]).length = C.length := length_splice C o [v] (by simp; omega)
/-- A predicate's stratum is set. -/
def setS (P : List PredInfo) (h : Nat) (v : Int) : List PredInfo := P.modify h fun x => { x with stratum := v }
theorem setS_get (P : List PredInfo) (h : Nat) (v : Int) (i : Nat) : (setS P h v)[i]? = if i = h then (P[i]?).map fun x => { x with stratum := v } else P[i]? := by
  unfold setS
  rw [List.getElem?_modify]
  by_cases hi : i = h
  · subst hi; simp
  · rw [if_neg hi]
    have : ¬ h = i := fun e => hi e.symm
    simp [this]
theorem setS_length (P : List PredInfo) (h : Nat) (v : Int) : (setS P h v).length = P.length := by unfold setS; simp
theorem At.setS {W W' : World} {bP : Nat} {aP : Option Addr} {N : Nat} {P : List PredInfo} {C : List Value} {h : Nat} {v : Int} (hA : At PredInfo.enc 3 W bP 0 aP N P) (hC : blk W bP = some C) (hh : h < N) (hW : blk W' bP = some (splice C (h * 3 + 2) [.int .i64 v])) : At PredInfo.enc 3 W' bP 0 aP N (setS P h v) := by
  refine ⟨by rw [setS_length]; exact hA.1, fun h0 => ?_⟩
  obtain ⟨h1, C', h2, h3, h4⟩ := hA.2 h0
  obtain rfl : C' = C := Option.some.inj (h2.symm.trans hC)
  refine ⟨h1, _, hW, by rw [length_splice1 (by omega)]; exact h3, fun i x hx => ?_⟩
  rw [setS_get] at hx
  by_cases hi : i = h
  · subst hi
    rw [if_pos rfl] at hx
    obtain ⟨y, hy, rfl⟩ := Option.map_eq_some_iff.1 hx
    have hs := h4 i y hy
    rw [Nat.zero_add] at hs ⊢
    rw [seg_splice_in hs (by omega) (by omega)]
    exact PredInfo.stratum_set y v
  · rw [if_neg hi] at hx
    rw [seg_splice_off (by omega) (by omega)]
    exact h4 i x hx
/-- What may change, beside new blocks. -/
structure Side (D : Nat → Prop) (w w' : World) : Prop where
  os : w'.os = w.os
  tape : w'.tape = w.tape
  output : w'.output = w.output
  size : w.heap.size ≤ w'.heap.size
  block : ∀ k, k < w.heap.size → ¬ D k → w'.heap[k]? = w.heap[k]?
theorem Side.refl (D : Nat → Prop) (w : World) : Side D w w := ⟨rfl, rfl, rfl, Nat.le_refl _, fun _ _ _ => rfl⟩
theorem Side.trans {D : Nat → Prop} {w w' w'' : World} (h : Side D w w') (h' : Side D w' w'') : Side D w w'' :=
  ⟨h'.os.trans h.os, h'.tape.trans h.tape, h'.output.trans h.output, Nat.le_trans h.size h'.size, fun k hk hd => (h'.block k (Nat.lt_of_lt_of_le hk h.size) hd).trans (h.block k hk hd)⟩
theorem Side.of_extends {D : Nat → Prop} {w w' : World} (h : w.Extends w') : Side D w w' := ⟨h.os, h.tape, h.output, h.size, fun k hk _ => h.block k hk⟩
theorem Side.put {D : Nat → Prop} {w w' : World} (h : Side D w w') {b : Nat} (hb : D b) (C : List Value) : Side D w (Blk.put w' b C) := by
  refine ⟨h.os, h.tape, h.output, by rw [size_put]; exact h.size, fun k hk hd => ?_⟩
  rw [heap_put, if_neg (fun e : k = b => hd (by rw [e]; exact hb))]
  exact h.block k hk hd
theorem Side.drewN {D : Nat → Prop} {w w' : World} (h : Side D w w') (n : Nat) : Side D w (w'.drewN n) := ⟨h.os, h.tape, h.output, h.size, h.block⟩
theorem Side.drew {D : Nat → Prop} {w w' : World} (h : Side D w w') : Side D w w'.drew := ⟨h.os, h.tape, h.output, h.size, h.block⟩
theorem Side.mono {D D' : Nat → Prop} {w w' : World} (h : Side D w w') (hd : ∀ k, D k → D' k) : Side D' w w' := ⟨h.os, h.tape, h.output, h.size, fun k hk hn => h.block k hk fun h1 => hn (hd k h1)⟩
theorem Side.blk {D : Nat → Prop} {w w' : World} (h : Side D w w') {k : Nat} (hk : k < w.heap.size) (hd : ¬ D k) : blk w' k = blk w k := blk_of_heap (h.block k hk hd)
theorem Side.extends {D : Nat → Prop} {w0 w w' : World} (h : Side D w w') (he : w0.Extends w) (hd : ∀ k, D k → w0.heap.size ≤ k) : w0.Extends w' := by
  have hb : ∀ i, i < w0.heap.size → w'.heap[i]? = w0.heap[i]? := fun i hi => (h.block i (Nat.lt_of_lt_of_le hi he.size) (fun h1 => by have := hd i h1; omega)).trans (he.block i hi)
  exact ⟨h.os.trans he.os, h.tape.trans he.tape, h.output.trans he.output, Nat.le_trans he.size h.size, fun a ha => World.cell?_of_block (hb _ ha), fun a ha => World.frozen?_of_block (hb _ ha), hb⟩
theorem least_of {p : Nat → Prop} : ∀ n, p n → ∃ k, p k ∧ ∀ m, m < k → ¬ p m := fun n => by
  induction n using Nat.strongRecOn with
  | ind n ih =>
    intro hn
    by_cases h : ∃ m, m < n ∧ p m
    · obtain ⟨m, h1, h2⟩ := h
      exact ih m h1 h2
    · exact ⟨n, hn, fun m hm hp => h ⟨m, hm, hp⟩⟩
open Classical in
noncomputable def leastN (p : Nat → Prop) : Nat := if h : ∃ k, p k ∧ ∀ m, m < k → ¬ p m then Classical.choose h else 0
theorem leastN_spec {p : Nat → Prop} {n : Nat} (h : p n) : p (leastN p) ∧ leastN p ≤ n := by
  have hx := least_of n h
  unfold leastN
  rw [dif_pos hx]
  have hs := Classical.choose_spec hx
  exact ⟨hs.1, Nat.le_of_not_lt fun hlt => hs.2 n hlt h⟩
/-- A loop whose relation carries its own measure. -/
theorem wp_loop_ix {P : Program} {c : Code} {Q : Exit → Act → World → Prop} {T : Array Value} {w : World} (N : Nat) (I : Nat → (Nat → Value) → World → Prop) (n0 : Nat) (hN : T.size = N) (h0 : I n0 (slots T) w)
    (round : ∀ n f w, I n f w → ∀ μ : (Nat → Value) → World → Nat, Hid (∀ m f' w', I m f' w' → m < n → μ f' w' < μ f w) → c.wp P (Exit.then (RoundEnd N (fun f w => ∃ n, I n f w) μ f w) Q) ⟨frameN N f, []⟩ w) :
    (Code.loop c).wp P Q ⟨T, []⟩ w := by
  refine wp_loop_f N (fun f w => ∃ n, I n f w) (fun f w => leastN fun n => I n f w) hN ⟨n0, h0⟩ ?_
  rintro f w ⟨n, hI⟩
  refine round (leastN fun n => I n f w) f w (leastN_spec (p := fun n => I n f w) hI).1 _ ?_
  intro m f' w' hm hlt
  exact Nat.lt_of_le_of_lt (leastN_spec (p := fun n => I n f' w') hm).2 hlt
def sumS (P : List PredInfo) : Nat := (P.map fun x => x.stratum.toNat).sum
theorem sumS_set : ∀ (P : List PredInfo) (h : Nat) (x : PredInfo) (v : Int), P[h]? = some x → sumS (setS P h v) + x.stratum.toNat = sumS P + v.toNat
  | [], h, x, v, hx => by simp at hx
  | y :: P, 0, x, v, hx => by
    obtain rfl : y = x := by simpa using hx
    simp only [sumS, setS, List.modify_zero_cons, List.map_cons, List.sum_cons]
    omega
  | y :: P, h + 1, x, v, hx => by
    have ih := sumS_set P h x v (by simpa using hx)
    simp only [sumS, setS, List.modify_succ_cons, List.map_cons, List.sum_cons] at ih ⊢
    omega
theorem sumS_le : ∀ (P : List PredInfo) (m : Nat), (∀ x ∈ P, x.stratum ≤ (m : Int)) → sumS P ≤ P.length * m
  | [], m, _ => by simp [sumS]
  | y :: P, m, h => by
    have ih := sumS_le P m fun x hx => h x (List.mem_cons_of_mem _ hx)
    have h1 := h y (List.mem_cons_self ..)
    simp only [sumS, List.map_cons, List.sum_cons, List.length_cons] at ih ⊢
    rw [Nat.add_mul]
    omega
end Go.Proofs.Qxb6500788a
