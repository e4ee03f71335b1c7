import Derived.Test.Qxb6500788aNw3
import Derived.StillTailTactics
import Derived.Deep.QuietTactic
import Derived.BigQuiet
import Derived.Deep.RegionHeld
import Derived.Deep.CutRange
import Derived.Laws.ResultCell
import Derived.Laws.Rows
import Derived.DeepKeys
import Derived.DataBytes
import Derived.Laws.StructEq
import Derived.Laws.AppendOwn
import Derived.Laws.MakeOwn
set_option linter.unusedSimpArgs false
set_option linter.unusedVariables false
namespace Go.Proofs.Qxb6500788a
open Go.RowKit Go.Blk
attribute [local go_sem ↓] execOp_load execOp_store execOp_alloc
attribute [local go_sem] Try.ld24 Try.st24 Try.ld25 Try.st25 Try.ld3 Try.st3 Try.ld30 Try.st30 Try.ld36 Try.st36 Try.ld4 Try.st4 Try.ld41 Try.st41 Try.ld50 Try.st50 Try.ld40 Try.st40 Try.ld42 Try.st42 Try.ld89 Try.st89 Try.ld91 Try.st91 Try.ld56 Try.st56 Try.ld97 Try.st97 Try.ld98 Try.st98 Try.ld101 Try.st101 Try.ld104 Try.st104 Try.ld57 Try.st57 Try.ld130 Try.st130 Try.ld2 Try.st2 Try.ld5 Try.st5 Try.ld9 Try.st9 Try.ld12 Try.st12 Try.ld21 Try.st21 Try.ld22 Try.st22 Try.ld29 Try.st29 Try.ld33 Try.st33 Try.ld59 Try.st59 Try.ld62 Try.st62 Try.ld69 Try.st69 Try.ld94 Try.st94 Try.ld96 Try.st96 Try.ld129 Try.st129 Try.ld158 Try.st158 Try.ld162 Try.st162 Try.ld47 Try.st47 Try.ld44 Try.st44 Try.ld137 Try.st137 Try.ld145 Try.st145 Try.ld43 Try.st43 Try.ld27 Try.st27 Try.ld38 Try.st38 Try.ld46 Try.st46 Try.ld49 Try.st49 Try.ld52 Try.st52 Try.ld54 Try.st54 Try.ld61 Try.st61 Try.ld80 Try.st80 Try.ld87 Try.st87 Try.ld93 Try.st93 Try.ld100 Try.st100 Try.ld103 Try.st103 Try.ld106 Try.st106 Try.ld109 Try.st109 Try.ld132 Try.st132 Try.ld147 Try.st147 Try.al47 Try.al44 Try.al137 Try.al145 Try.al43 Try.al27 Try.al38 Try.al46 Try.al49 Try.al52 Try.al54 Try.al61 Try.al80 Try.al87 Try.al93 Try.al100 Try.al103 Try.al106 Try.al109 Try.al132 Try.al147
attribute [local go_sem] GProgram.length_enc GProgram.ok_enc GProgram.all_get GProgram.all_set GProgram.preds_get GProgram.preds_set GProgram.rules_get GProgram.rules_set GProgram.strata_get GProgram.strata_set Answer.length_enc Answer.ok_enc Answer.all_get Answer.all_set Answer.code_get Answer.code_set Answer.n_get Answer.n_set Answer.rows_get Answer.rows_set Term.length_enc Term.ok_enc Term.all_get Term.all_set Term.var_get Term.var_set Term.n_get Term.n_set Atom.length_enc Atom.ok_enc Atom.all_get Atom.all_set Atom.pred_get Atom.pred_set Atom.args_get Atom.args_set GRule.length_enc GRule.ok_enc GRule.all_get GRule.all_set GRule.head_get GRule.head_set GRule.body_get GRule.body_set GRule.head_pred_get GRule.head_pred_set GRule.head_args_get GRule.head_args_set GOp.length_enc GOp.ok_enc GOp.all_get GOp.all_set GOp.kind_get GOp.kind_set GOp.pred_get GOp.pred_set GOp.t_get GOp.t_set GOp.n_get GOp.n_set GOp.base_get GOp.base_set GOp.rule_get GOp.rule_set GOp.rule_head_get GOp.rule_head_set GOp.rule_body_get GOp.rule_body_set GOp.rule_head_pred_get GOp.rule_head_pred_set GOp.rule_head_args_get GOp.rule_head_args_set PredInfo.length_enc PredInfo.ok_enc PredInfo.all_get PredInfo.all_set PredInfo.arity_get PredInfo.arity_set PredInfo.base_get PredInfo.base_set PredInfo.stratum_get PredInfo.stratum_set GStats.length_enc GStats.ok_enc GStats.all_get GStats.all_set GStats.rounds_get GStats.rounds_set GStats.fired_get GStats.fired_set GStats.emitted_get GStats.emitted_set GStats.fresh_get GStats.fresh_set Literal.length_enc Literal.ok_enc Literal.all_get Literal.all_set Literal.neg_get Literal.neg_set Literal.atom_get Literal.atom_set Literal.atom_pred_get Literal.atom_pred_set Literal.atom_args_get Literal.atom_args_set Engine.length_enc Engine.ok_enc Engine.all_get Engine.all_set Engine.prog_get Engine.prog_set Engine.st_get Engine.st_set Engine.levels_get Engine.levels_set Engine.running_get Engine.running_set Engine.stratum_get Engine.stratum_set Engine.round_get Engine.round_set Engine.saved_get Engine.saved_set Engine.stats_get Engine.stats_set Engine.prog_preds_get Engine.prog_preds_set Engine.prog_rules_get Engine.prog_rules_set Engine.prog_strata_get Engine.prog_strata_set Engine.stats_rounds_get Engine.stats_rounds_set Engine.stats_fired_get Engine.stats_fired_set Engine.stats_emitted_get Engine.stats_emitted_set Engine.stats_fresh_get Engine.stats_fresh_set Level.length_enc Level.ok_enc Level.all_get Level.all_set Level.heads_get Level.heads_set Level.jobs_get Level.jobs_set Plan.length_enc Plan.ok_enc Plan.all_get Plan.all_set Plan.rule_get Plan.rule_set Plan.delta_get Plan.delta_set Plan.src_get Plan.src_set Job.length_enc Job.ok_enc Job.all_get Job.all_set Job.full_get Job.full_set Job.deltas_get Job.deltas_set Job.full_rule_get Job.full_rule_set Job.full_delta_get Job.full_delta_set Job.full_src_get Job.full_src_set GState.length_enc GState.ok_enc GState.all_get GState.all_set GState.prog_get GState.prog_set GState.base_get GState.base_set GState.shown_get GState.shown_set GState.prog_preds_get GState.prog_preds_set GState.prog_rules_get GState.prog_rules_set GState.prog_strata_get GState.prog_strata_set Store.length_enc Store.ok_enc Store.all_get Store.all_set Store.arity_get Store.arity_set Store.rows_get Store.rows_set Env.length_enc Env.ok_enc Env.all_get Env.all_set Env.val_get Env.val_set Env.set_get Env.set_set
attribute [local go_sem] size_put size_ext blk_put free_put blk_alloc free_alloc blk_drew free_drew blk_ext free_ext lookOr_some putOr_some segAt_some cellAt_some storeIn_some put_put put_alloc_new length_arr ok_arr_u8 ok_arr_u32 ok_arr_u64 ok_arr_i64 ok_arr_sl cellsV_agg cellsV_int cellsV_bool cellsV_string cellsV_pointer cellsV_slice cellsV_sl ok_int ok_bool ok_string ok_pointer ok_slice ok_sl toList_arr seg_arr set_arr nth_splice nth_splice0 seg_splice seg_splice0 splice_splice splice_splice0 length_splice_if
attribute [local go_sem ↓] execOp_box
attribute [local go_sem] box_run nth_arr_u8 put_arr_u8 blk_drewN free_drewN put_drewN blk_raw free_raw
structure Mor (D : Nat → Prop) (B : Nat) (w w' : World) : Prop where
  os : w'.os = w.os
  tape : w'.tape = w.tape
  output : w'.output = w.output
  size : w.heap.size ≤ w'.heap.size
  low : ∀ k, k < w.heap.size → k < B → ¬ D k → w'.heap[k]? = w.heap[k]?
  kept : ∀ (k : Nat) (cur : Array Value) (e : TypeId), B ≤ k → w.heap[k]? = some (.cells cur e (0, 0)) → ∃ cur', w'.heap[k]? = some (.cells cur' e (0, 0)) ∧ cur'.size = cur.size
theorem heap_lt {w : World} {k : Nat} {o : Obj} (h : w.heap[k]? = some o) : k < w.heap.size := (Array.getElem?_eq_some_iff.1 h).1
theorem Mor.refl (D : Nat → Prop) (B : Nat) (w : World) : Mor D B w w := ⟨rfl, rfl, rfl, Nat.le_refl _, fun _ _ _ _ => rfl, fun k cur e _ h => ⟨cur, h, rfl⟩⟩
theorem Mor.trans {D : Nat → Prop} {B : Nat} {w w' w'' : World} (h : Mor D B w w') (h' : Mor D B w' w'') : Mor D B w w'' := by
  refine ⟨h'.os.trans h.os, h'.tape.trans h.tape, h'.output.trans h.output, Nat.le_trans h.size h'.size, fun k hk hB hD => (h'.low k (Nat.lt_of_lt_of_le hk h.size) hB hD).trans (h.low k hk hB hD), fun k cur e hB hc => ?_⟩
  obtain ⟨c1, e1, s1⟩ := h.kept k cur e hB hc
  obtain ⟨c2, e2, s2⟩ := h'.kept k c1 e hB e1
  exact ⟨c2, e2, s2.trans s1⟩
theorem Mor.mono {D D' : Nat → Prop} {B : Nat} {w w' : World} (h : Mor D B w w') (hd : ∀ k, D k → D' k) : Mor D' B w w' := ⟨h.os, h.tape, h.output, h.size, fun k hk hB hn => h.low k hk hB fun h1 => hn (hd k h1), h.kept⟩
theorem Mor.of_extends {D : Nat → Prop} {B : Nat} {w w' : World} (h : w.Extends w') : Mor D B w w' := ⟨h.os, h.tape, h.output, h.size, fun k hk _ _ => h.block k hk, fun k cur e _ hc => ⟨cur, (h.block k (heap_lt hc)).trans hc, rfl⟩⟩
theorem Mor.put {D : Nat → Prop} {B : Nat} {w w' : World} (h : Mor D B w w') {b : Nat} (hb : D b) (hB : b < B) (C : List Value) : Mor D B w (Blk.put w' b C) := by
  refine ⟨h.os, h.tape, h.output, by rw [size_put]; exact h.size, fun k hk hkB hd => ?_, fun k cur e hk hc => ?_⟩
  · rw [heap_put, if_neg (fun e : k = b => hd (by rw [e]; exact hb))]
    exact h.low k hk hkB hd
  · rw [heap_put, if_neg (by omega)]
    exact h.kept k cur e hk hc
theorem Mor.blk {D : Nat → Prop} {B : Nat} {w w' : World} (h : Mor D B w w') {k : Nat} (hk : k < w.heap.size) (hB : k < B) (hd : ¬ D k) : blk w' k = blk w k := blk_of_heap (h.low k hk hB hd)
theorem Mor.free {D : Nat → Prop} {B : Nat} {w w' : World} (h : Mor D B w w') {k : Nat} (hk : k < w.heap.size) (hB : k < B) (hd : ¬ D k) : free w' k = free w k := free_of_heap (h.low k hk hB hd)
theorem Mor.extends {D : Nat → Prop} {B : Nat} {w0 w w' : World} (h : Mor D B w w') (he : w0.Extends w) (hB : w0.heap.size ≤ B) (hd : ∀ k, D k → w0.heap.size ≤ k) : w0.Extends w' := by
  have hb : ∀ i, i < w0.heap.size → w'.heap[i]? = w0.heap[i]? := fun i hi => (h.low i (Nat.lt_of_lt_of_le hi he.size) (by omega) (fun h1 => by have := hd i h1; omega)).trans (he.block i hi)
  exact ⟨h.os.trans he.os, h.tape.trans he.tape, h.output.trans he.output, Nat.le_trans he.size h.size, fun a ha => World.cell?_of_block (hb _ ha), fun a ha => World.frozen?_of_block (hb _ ha), hb⟩
/-- A row of one's own, whatever it holds. -/
def WR (B : Nat) (e : TypeId) (sz : Nat) (W : World) (v : Value) (c : Nat) : Prop := ∃ a n cp xs, v = .slice a n cp ∧ W.ownsRow B e sz v n xs ∧ n ≤ c
theorem WR.mor {D : Nat → Prop} {B : Nat} {e : TypeId} {sz : Nat} {w w' : World} {v : Value} {c : Nat} (h : WR B e sz w v c) (hm : Mor D B w w') : WR B e sz w' v c := by
  obtain ⟨a, n, cp, xs, rfl, ⟨h1, h2 | ⟨g, cap, cur, e1, e2, e3, e4, e5, e6, e7⟩⟩, hc⟩ := h
  · exact ⟨a, n, cp, xs, rfl, ⟨h1, .inl h2⟩, hc⟩
  · obtain ⟨cur', f1, f2⟩ := hm.kept g cur e e2 e3
    refine ⟨a, n, cp, cur'.toList.take (n * sz), rfl, ⟨?_, .inr ⟨g, cap, cur', e1, e2, f1, e4, e5, by omega, rfl⟩⟩, hc⟩
    have : n * sz ≤ cap * sz := Nat.mul_le_mul_right _ e4
    rw [List.length_take, Array.length_toList]
    omega
theorem WR.nil (B : Nat) (e : TypeId) (sz : Nat) (W : World) (c : Nat) : WR B e sz W (.slice none 0 0) c := ⟨none, 0, 0, [], rfl, ⟨by simp, .inl ⟨rfl, rfl⟩⟩, by omega⟩
theorem WR.mono {B : Nat} {e : TypeId} {sz : Nat} {W : World} {v : Value} {c c' : Nat} (h : WR B e sz W v c) (hc : c ≤ c') : WR B e sz W v c' := by
  obtain ⟨a, n, cp, xs, h1, h2, h3⟩ := h
  exact ⟨a, n, cp, xs, h1, h2, by omega⟩
theorem appW (sz bytes : Nat) (t e : TypeId) (ht : Try.prog.underlying t = some (.slice e)) (hinfo : ∃ i z, Try.prog.info? e = some i ∧ i.zero = some z ∧ i.size = sz ∧ i.bytes = bytes ∧ z.cells.size = sz) (hsz : 0 < sz) (hb1 : bytes ≤ 1000)
    (B : Nat) (w : World) (ty : TypeId) (v : Value) (c0 : Nat) (h : WR B e sz w v c0) (hc0 : c0 ≤ 1000000000) (g : Nat) (news : List Value) (hl : news.length = sz) (hone : news.all (fun v => v.oneCell') = true) (hg : blk w g = some news) (hb : B ≤ w.heap.size) :
    ∃ a n cp w', (Builtin.append_ #[t, t] ty #[v, .slice (some ⟨g, 0, none⟩) 1 1]).run Try.prog w = .ok (.slice a n cp) w' ∧ WR B e sz w' (.slice a n cp) (c0 + 1) ∧ Mor (fun _ => False) B w w' := by
  obtain ⟨a, n, cp, xs, rfl, hown, hnc⟩ := h
  obtain ⟨i, z, hi, hz, rfl, rfl, hzc⟩ := hinfo
  have hnews : ∀ j u, news[j]? = some u → w.cell? ((⟨g, 0, none⟩ : Addr).add j) = some u := fun j u hu => by
    rw [add_addr, cell_blk hg, Nat.zero_add]
    exact hu
  have hone' : ∀ u ∈ news, u.oneCell' = true := fun u hu => List.all_eq_true.1 hone u hu
  have hby2 : (n + 1) * i.bytes ≤ 140737488355328 := Nat.le_trans (Nat.mul_le_mul (show n + 1 ≤ 1000000001 by omega) hb1) (by decide)
  have hl' : news.length = 1 * i.size := by omega
  obtain ⟨v', w', hr, h1, h2, _⟩ := run_append_own (P := Try.prog) w B t ty e i _ i.size i.bytes ht hi hz rfl rfl hzc hsz _ n _ hown ⟨g, 0, none⟩ 1 1 news hl' hnews hone' (by simp only [maxLen]; omega) hby2 hb
  obtain ⟨a', c', rfl⟩ := row_val h1
  refine ⟨a', n + 1, c', w', hr, ⟨a', n + 1, c', _, rfl, h1, by omega⟩, ⟨h2.os, h2.tape, h2.output, h2.size, fun k hk hB _ => h2.block k hk (fun e1 => by have := (row_at hown k e1.symm).1; omega), fun k cur e' hB hc => ?_⟩⟩
  rcases hown.2 with ⟨h3, h4⟩ | ⟨g', cap, cur', h3, hbg, hg', hnc', hcm, hcs, htake⟩
  · rw [h3] at hr
    subst h4
    rw [run_append_nil (P := Try.prog) w t ty e i z ht hi hz ⟨g, 0, none⟩ 1 1 news hl' hnews (by omega) (by omega) (by omega)] at hr
    injection hr with _ h5
    rw [← h5]
    exact ⟨cur, by rw [heap_alloc, if_neg (by have := heap_lt hc; show ¬ k = w.heap.size; omega)]; exact hc, rfl⟩
  · rw [h3] at hr
    by_cases hroom : n + 1 ≤ cap
    · have hfit : n * i.size + news.length ≤ cur'.size := by
        rw [hl', hcs, ← Nat.add_mul]; exact Nat.mul_le_mul_right _ hroom
      rw [run_append_room (P := Try.prog) w t ty e i ht hi g' n cap cur' hg' ⟨g, 0, none⟩ 1 1 news hl' hnews hone' hroom hfit] at hr
      injection hr with _ h5
      have h6 : w' = put w g' (cur'.toList.take (n * i.size) ++ news ++ cur'.toList.drop (n * i.size + news.length)) := h5.symm
      rw [h6, heap_put]
      by_cases hk : k = g'
      · subst hk
        obtain ⟨rfl, rfl⟩ : cur = cur' ∧ e' = e := by
          have := hc.symm.trans hg'
          injection this with q
          injection q with q1 q2
          exact ⟨q1, q2⟩
        rw [if_pos rfl, hc]
        refine ⟨_, rfl, ?_⟩
        simp only [List.size_toArray, List.length_append, List.length_take, List.length_drop, Array.length_toList]
        omega
      · rw [if_neg hk]
        exact ⟨cur, hc, rfl⟩
    · have holds : ∀ j u, xs[j]? = some u → w.cell? ((⟨g', 0, none⟩ : Addr).add j) = some u := hown.cells (g := g') (by rw [h3]; rfl)
      rw [run_append_grow (P := Try.prog) w t ty e i z ht hi hz ⟨g', 0, none⟩ n cap xs hown.1 holds ⟨g, 0, none⟩ 1 1 news hl' hnews (by omega) (by omega) (growslice_fits (by omega) hby2)] at hr
      injection hr with _ h5
      rw [← h5]
      exact ⟨cur, by rw [heap_alloc, if_neg (by have := heap_lt hc; show ¬ k = w.heap.size; omega)]; exact hc, rfl⟩
/-- Rows made by 'make': nil slices. -/
theorem make91 (w : World) (n : Nat) (hn : n ≤ 100) : ∃ C : List Value, C.length = n * 2 ∧ (∀ k, k < n * 2 → nth C k = some (.slice none 0 0)) ∧ (makeOp 91 (.int .i64 (n : Int)) (.int .i64 (n : Int))).run Try.prog w = .ok (.value (.slice (some ⟨w.heap.size, 0, none⟩) n n)) (w.alloc (.cells C.toArray 100)) := by
  obtain ⟨i, hi, hz, hsz, hby⟩ : ∃ i, Try.prog.info? 100 = some i ∧ i.zero = some (.agg #[.slice none 0 0, .slice none 0 0]) ∧ i.size = 2 ∧ i.bytes = 48 := by
    have hq : (Try.prog.info? 100).map (fun i => (i.zero, i.size, i.bytes)) = some (some (.agg #[.slice none 0 0, .slice none 0 0]), 2, 48) := by kernel_rfl
    cases hx : Try.prog.info? 100 with
    | none => rw [hx] at hq; simp at hq
    | some i =>
      rw [hx] at hq
      simp only [Option.map_some, Option.some.injEq, Prod.mk.injEq] at hq
      exact ⟨i, rfl, hq.1, hq.2.1, hq.2.2⟩
  have hr := run_make (P := Try.prog) w 91 100 i _ Try.underlying91 hi hz .i64 .i64 (n : Int) (n : Int) (by omega) (by omega) (by rw [hby]; omega) (by omega)
  refine ⟨(madeCells (Value.agg #[.slice none 0 0, .slice none 0 0]).cells (n * 2)).toList, by rw [Array.length_toList, size_madeCells], fun k hk => ?_, ?_⟩
  · unfold nth madeCells
    have h2 : k % 2 = 0 ∨ k % 2 = 1 := by omega
    rw [Array.getElem?_toList, Array.getElem?_map, Array.getElem?_range]
    simp only [hk, if_true, Option.map_some]
    rcases h2 with h | h <;> simp [Value.cells, h]
  · unfold makeOp
    rw [Sem.run_bind, hr, hsz, Int.toNat_natCast, Array.toArray_toList]
    rfl
theorem make56 (w : World) (n : Nat) (hn : n ≤ 100) : ∃ C : List Value, (makeOp 56 (.int .i64 (n : Int)) (.int .i64 (n : Int))).run Try.prog w = .ok (.value (.slice (some ⟨w.heap.size, 0, none⟩) n n)) (w.alloc (.cells C.toArray 36)) := by
  obtain ⟨i, z, hi, hz, hsz, hby, _⟩ := info36
  have hr := run_make (P := Try.prog) w 56 36 i _ Try.underlying56 hi hz .i64 .i64 (n : Int) (n : Int) (by omega) (by omega) (by rw [hby]; omega) (by omega)
  refine ⟨(madeCells z.cells (n * 1)).toList, ?_⟩
  unfold makeOp
  rw [Sem.run_bind, hr, hsz, Int.toNat_natCast, Array.toArray_toList]
  rfl
def stoE (a1 : Option Addr) (n1 c1 : Nat) (a2 : Option Addr) (n2 c2 : Nat) : List Value := Store.enc ⟨⟨a1, n1, c1⟩, ⟨a2, n2, c2⟩⟩
theorem sto_len (a1 : Option Addr) (n1 c1 : Nat) (a2 : Option Addr) (n2 c2 : Nat) : (stoE a1 n1 c1 a2 n2 c2).length = 2 := rfl
theorem sto0 (a1 : Option Addr) (n1 c1 : Nat) (a2 : Option Addr) (n2 c2 : Nat) : nth (stoE a1 n1 c1 a2 n2 c2) 0 = some (.slice a1 n1 c1) := rfl
theorem sto1 (a1 : Option Addr) (n1 c1 : Nat) (a2 : Option Addr) (n2 c2 : Nat) : nth (stoE a1 n1 c1 a2 n2 c2) 1 = some (.slice a2 n2 c2) := rfl
theorem sto_set0 (a1 : Option Addr) (n1 c1 : Nat) (a2 : Option Addr) (n2 c2 : Nat) (a : Option Addr) (n c : Nat) : splice (stoE a1 n1 c1 a2 n2 c2) 0 [.slice a n c] = stoE a n c a2 n2 c2 := rfl
theorem sto_set1 (a1 : Option Addr) (n1 c1 : Nat) (a2 : Option Addr) (n2 c2 : Nat) (a : Option Addr) (n c : Nat) : splice (stoE a1 n1 c1 a2 n2 c2) 1 [.slice a n c] = stoE a1 n1 c1 a n c := rfl
def StoreOk (B bst : Nat) (W : World) (c : Nat) : Prop := ∃ a1 n1 c1 a2 n2 c2, blk W bst = some (stoE a1 n1 c1 a2 n2 c2) ∧ free W bst = true ∧ WR B 3 1 W (.slice a1 n1 c1) c ∧ WR B 36 1 W (.slice a2 n2 c2) c
def DefPost (B bst : Nat) (W : World) (c : Nat) (e : Ending) (W' : World) : Prop := ∃ v, e = .returned v ∧ StoreOk B bst W' (c + 1) ∧ Mor (fun k => k = bst) B W W'
attribute [local go_sem] sto_len sto0 sto1 sto_set0 sto_set1 bslice130 bslice56
attribute [local go_sem ↓] execOp_build execOp_bslice execOp_slice
set_option maxRecDepth 20000 in
set_option maxHeartbeats 2000000 in
theorem define_any (W : World) (B bst c : Nat) (ar : Int) (hS : StoreOk B bst W c) (hB : bst < B) (hBW : B ≤ W.heap.size) (hc : c ≤ 1000000) : Calls Try.prog 43 #[.pointer (some ⟨bst, 0, none⟩), .int .i64 ar] W (DefPost B bst W c) := by
  obtain ⟨a1, n1, c1, a2, n2, c2, hb, hf, hw1, hw2⟩ := hS
  have lb := blk_lt hb
  have nb : ¬ bst = W.heap.size := by omega
  have m1 : Mor (fun k => k = bst) B W (W.alloc (.cells (encI ar).toArray 3)) := Mor.of_extends (extends_alloc (ext_Ext (Ext.refl _)) _)
  obtain ⟨a1', n1', c1', W2, hrun1, hw1', hm2⟩ := appW 1 8 130 3 Try.underlying130 info3 (by omega) (by omega) B (W.alloc (.cells (encI ar).toArray 3)) 130 _ c (hw1.mor m1) (by omega) W.heap.size (encI ar) rfl rfl ((blk_alloc _ _ _ _).trans (if_pos rfl)) (Nat.le_trans hBW m1.size)
  have lb1 : bst < (W.alloc (.cells (encI ar).toArray 3)).heap.size := Nat.lt_of_lt_of_le lb m1.size
  have hb1 : blk (W.alloc (.cells (encI ar).toArray 3)) bst = some (stoE a1 n1 c1 a2 n2 c2) := (blk_alloc _ _ _ _).trans ((if_neg nb).trans hb)
  have hf1 : free (W.alloc (.cells (encI ar).toArray 3)) bst = true := (free_alloc _ _ _ _).trans ((if_neg nb).trans hf)
  have hb2 : blk W2 bst = some (stoE a1 n1 c1 a2 n2 c2) := (hm2.blk lb1 hB (fun h => h)).trans hb1
  have hf2 : free W2 bst = true := (hm2.free lb1 hB (fun h => h)).trans hf1
  have m2 : Mor (fun k => k = bst) B W W2 := m1.trans (hm2.mono (fun k h => h.elim))
  obtain ⟨W3, hW3⟩ : ∃ W3, W3 = put W2 bst (stoE a1' n1' c1' a2 n2 c2) := ⟨_, rfl⟩
  have m3 : Mor (fun k => k = bst) B W2 W3 := by rw [hW3]; exact Mor.put (D := fun k => k = bst) (Mor.refl _ _ _) rfl hB _
  have hb3 : blk W3 bst = some (stoE a1' n1' c1' a2 n2 c2) := by rw [hW3, blk_put, if_pos rfl, hb2]; rfl
  have hf3 : free W3 bst = true := by rw [hW3, free_put]; exact hf2
  have lb3 := blk_lt hb3
  have nb3 : ¬ bst = W3.heap.size := by omega
  have m4 : Mor (fun k => k = bst) B W3 (W3.alloc (.cells ([Value.slice none 0 0] : List Value).toArray 36)) := Mor.of_extends (extends_alloc (ext_Ext (Ext.refl _)) _)
  have hBW3 : B ≤ W3.heap.size := Nat.le_trans hBW (m2.trans m3).size
  obtain ⟨a2', n2', c2', W5, hrun2, hw2', hm5⟩ := appW 1 24 56 36 Try.underlying56 info36 (by omega) (by omega) B (W3.alloc (.cells ([Value.slice none 0 0] : List Value).toArray 36)) 56 _ c (hw2.mor ((m2.trans m3).trans m4)) (by omega) W3.heap.size [Value.slice none 0 0] rfl rfl ((blk_alloc _ _ _ _).trans (if_pos rfl)) (Nat.le_trans hBW3 m4.size)
  have lb4 : bst < (W3.alloc (.cells ([Value.slice none 0 0] : List Value).toArray 36)).heap.size := Nat.lt_of_lt_of_le lb3 m4.size
  have hb5 : blk W5 bst = some (stoE a1' n1' c1' a2 n2 c2) := (hm5.blk lb4 hB (fun h => h)).trans ((blk_alloc _ _ _ _).trans ((if_neg nb3).trans hb3))
  have hf5 : free W5 bst = true := (hm5.free lb4 hB (fun h => h)).trans ((free_alloc _ _ _ _).trans ((if_neg nb3).trans hf3))
  have m5 : Mor (fun k => k = bst) B W3 W5 := m4.trans (hm5.mono (fun k h => h.elim))
  have m6 : Mor (fun k => k = bst) B W5 (put W5 bst (stoE a1' n1' c1' a2' n2' c2')) := Mor.put (D := fun k => k = bst) (Mor.refl _ _ _) rfl hB _
  have HF : Hid (StoreOk B bst (put W5 bst (stoE a1' n1' c1' a2' n2' c2')) (c + 1) ∧ Mor (fun k => k = bst) B W (put W5 bst (stoE a1' n1' c1' a2' n2' c2'))) := by
    refine ⟨⟨a1', n1', c1', a2', n2', c2', by rw [blk_put, if_pos rfl, hb5]; rfl, by rw [free_put]; exact hf5, hw1'.mor ((m3.trans m5).trans m6), hw2'.mor m6⟩, ((m2.trans m3).trans m5).trans m6⟩
  clear m1 m2 m3 m4 m5 m6 hw1 hw2 hw1' hw2' hm2 hm5 lb1 lb4 hb1 hf1
  go_enter Try.func43, Try.ntmps43
  go_upto_region 2 with (at_builtin; refine wpList_append_run rfl _ _ 130 rfl _ _ _ _ rfl rfl hrun1 ?_)
  rw [← hW3]
  clear hrun1 hW3 hb2 hf2 hb hf
  go_wp2_with (at_builtin; refine wpList_append_run rfl _ _ 56 rfl _ _ _ _ rfl rfl hrun2 ?_)
  go_ret
  exact ⟨_, rfl, HF.out⟩
theorem newStore_any (w : World) : Calls Try.prog 42 #[] w fun e w' => e = .returned (.pointer (some ⟨w.heap.size, 0, none⟩)) ∧ w' = w.alloc (.cells (stoE none 0 0 none 0 0).toArray 132) := by
  have hb : (buildOp 132 #[]).run Try.prog w = .ok (.value (.agg (stoE none 0 0 none 0 0).toArray)) w := by kernel_rfl
  go_enter Try.func42, Try.ntmps42
  go_wp2_with fail
  go_ret
  exact ⟨rfl, rfl⟩
end Go.Proofs.Qxb6500788a
