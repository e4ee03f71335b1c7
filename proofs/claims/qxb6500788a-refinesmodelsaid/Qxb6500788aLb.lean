import Derived.Test.Qxb6500788aPo1
import Derived.StillTailTactics
import Derived.Deep.QuietTactic
import Derived.BigQuiet
import Derived.Deep.RegionHeld
import Derived.Deep.CutRange
import Derived.Laws.ResultCell
import Derived.Laws.Rows
import Derived.DeepKeys
import Derived.DataBytes
import Derived.Laws.StructEq
import Derived.Laws.AppendOwn
import Derived.Laws.MakeOwn
set_option linter.unusedSimpArgs false
set_option linter.unusedVariables false
namespace Go.Proofs.Qxb6500788a
open Go.RowKit Go.Blk
attribute [local go_sem ↓] execOp_load execOp_store execOp_alloc
attribute [local go_sem] Try.ld24 Try.st24 Try.ld25 Try.st25 Try.ld3 Try.st3 Try.ld30 Try.st30 Try.ld36 Try.st36 Try.ld4 Try.st4 Try.ld41 Try.st41 Try.ld50 Try.st50 Try.ld40 Try.st40 Try.ld42 Try.st42 Try.ld89 Try.st89 Try.ld91 Try.st91 Try.ld56 Try.st56 Try.ld97 Try.st97 Try.ld98 Try.st98 Try.ld101 Try.st101 Try.ld104 Try.st104 Try.ld57 Try.st57 Try.ld130 Try.st130 Try.ld2 Try.st2 Try.ld5 Try.st5 Try.ld9 Try.st9 Try.ld12 Try.st12 Try.ld21 Try.st21 Try.ld22 Try.st22 Try.ld29 Try.st29 Try.ld33 Try.st33 Try.ld59 Try.st59 Try.ld62 Try.st62 Try.ld69 Try.st69 Try.ld94 Try.st94 Try.ld96 Try.st96 Try.ld129 Try.st129 Try.ld158 Try.st158 Try.ld162 Try.st162 Try.ld47 Try.st47 Try.ld44 Try.st44 Try.ld137 Try.st137 Try.ld145 Try.st145 Try.ld43 Try.st43 Try.ld27 Try.st27 Try.ld38 Try.st38 Try.ld46 Try.st46 Try.ld49 Try.st49 Try.ld52 Try.st52 Try.ld54 Try.st54 Try.ld61 Try.st61 Try.ld80 Try.st80 Try.ld87 Try.st87 Try.ld93 Try.st93 Try.ld100 Try.st100 Try.ld103 Try.st103 Try.ld106 Try.st106 Try.ld109 Try.st109 Try.ld132 Try.st132 Try.ld147 Try.st147 Try.al47 Try.al44 Try.al137 Try.al145 Try.al43 Try.al27 Try.al38 Try.al46 Try.al49 Try.al52 Try.al54 Try.al61 Try.al80 Try.al87 Try.al93 Try.al100 Try.al103 Try.al106 Try.al109 Try.al132 Try.al147
attribute [local go_sem] GProgram.length_enc GProgram.ok_enc GProgram.all_get GProgram.all_set GProgram.preds_get GProgram.preds_set GProgram.rules_get GProgram.rules_set GProgram.strata_get GProgram.strata_set Answer.length_enc Answer.ok_enc Answer.all_get Answer.all_set Answer.code_get Answer.code_set Answer.n_get Answer.n_set Answer.rows_get Answer.rows_set Term.length_enc Term.ok_enc Term.all_get Term.all_set Term.var_get Term.var_set Term.n_get Term.n_set Atom.length_enc Atom.ok_enc Atom.all_get Atom.all_set Atom.pred_get Atom.pred_set Atom.args_get Atom.args_set GRule.length_enc GRule.ok_enc GRule.all_get GRule.all_set GRule.head_get GRule.head_set GRule.body_get GRule.body_set GRule.head_pred_get GRule.head_pred_set GRule.head_args_get GRule.head_args_set GOp.length_enc GOp.ok_enc GOp.all_get GOp.all_set GOp.kind_get GOp.kind_set GOp.pred_get GOp.pred_set GOp.t_get GOp.t_set GOp.n_get GOp.n_set GOp.base_get GOp.base_set GOp.rule_get GOp.rule_set GOp.rule_head_get GOp.rule_head_set GOp.rule_body_get GOp.rule_body_set GOp.rule_head_pred_get GOp.rule_head_pred_set GOp.rule_head_args_get GOp.rule_head_args_set PredInfo.length_enc PredInfo.ok_enc PredInfo.all_get PredInfo.all_set PredInfo.arity_get PredInfo.arity_set PredInfo.base_get PredInfo.base_set PredInfo.stratum_get PredInfo.stratum_set GStats.length_enc GStats.ok_enc GStats.all_get GStats.all_set GStats.rounds_get GStats.rounds_set GStats.fired_get GStats.fired_set GStats.emitted_get GStats.emitted_set GStats.fresh_get GStats.fresh_set Literal.length_enc Literal.ok_enc Literal.all_get Literal.all_set Literal.neg_get Literal.neg_set Literal.atom_get Literal.atom_set Literal.atom_pred_get Literal.atom_pred_set Literal.atom_args_get Literal.atom_args_set Engine.length_enc Engine.ok_enc Engine.all_get Engine.all_set Engine.prog_get Engine.prog_set Engine.st_get Engine.st_set Engine.levels_get Engine.levels_set Engine.running_get Engine.running_set Engine.stratum_get Engine.stratum_set Engine.round_get Engine.round_set Engine.saved_get Engine.saved_set Engine.stats_get Engine.stats_set Engine.prog_preds_get Engine.prog_preds_set Engine.prog_rules_get Engine.prog_rules_set Engine.prog_strata_get Engine.prog_strata_set Engine.stats_rounds_get Engine.stats_rounds_set Engine.stats_fired_get Engine.stats_fired_set Engine.stats_emitted_get Engine.stats_emitted_set Engine.stats_fresh_get Engine.stats_fresh_set Level.length_enc Level.ok_enc Level.all_get Level.all_set Level.heads_get Level.heads_set Level.jobs_get Level.jobs_set Plan.length_enc Plan.ok_enc Plan.all_get Plan.all_set Plan.rule_get Plan.rule_set Plan.delta_get Plan.delta_set Plan.src_get Plan.src_set Job.length_enc Job.ok_enc Job.all_get Job.all_set Job.full_get Job.full_set Job.deltas_get Job.deltas_set Job.full_rule_get Job.full_rule_set Job.full_delta_get Job.full_delta_set Job.full_src_get Job.full_src_set GState.length_enc GState.ok_enc GState.all_get GState.all_set GState.prog_get GState.prog_set GState.base_get GState.base_set GState.shown_get GState.shown_set GState.prog_preds_get GState.prog_preds_set GState.prog_rules_get GState.prog_rules_set GState.prog_strata_get GState.prog_strata_set Store.length_enc Store.ok_enc Store.all_get Store.all_set Store.arity_get Store.arity_set Store.rows_get Store.rows_set Env.length_enc Env.ok_enc Env.all_get Env.all_set Env.val_get Env.val_set Env.set_get Env.set_set
attribute [local go_sem] size_put size_ext blk_put free_put blk_alloc free_alloc blk_drew free_drew blk_ext free_ext lookOr_some putOr_some segAt_some cellAt_some storeIn_some put_put put_alloc_new length_arr ok_arr_u8 ok_arr_u32 ok_arr_u64 ok_arr_i64 ok_arr_sl cellsV_agg cellsV_int cellsV_bool cellsV_string cellsV_pointer cellsV_slice cellsV_sl ok_int ok_bool ok_string ok_pointer ok_slice ok_sl toList_arr seg_arr set_arr nth_splice nth_splice0 seg_splice seg_splice0 splice_splice splice_splice0 length_splice_if
attribute [local go_sem ↓] execOp_box
attribute [local go_sem] box_run nth_arr_u8 put_arr_u8 blk_drewN free_drewN put_drewN blk_raw free_raw
theorem info42 : ∃ i z, Try.prog.info? 42 = some i ∧ i.zero = some z ∧ i.size = 1 ∧ i.bytes = 8 ∧ z.cells.size = 1 := by
  have hq : (Try.prog.info? 42).map (fun i => (i.zero.map (fun z => z.cells.size), i.size, i.bytes)) = some (some 1, 1, 8) := by kernel_rfl
  cases hx : Try.prog.info? 42 with
  | none => rw [hx] at hq; simp at hq
  | some i =>
    rw [hx] at hq
    simp only [Option.map_some, Option.some.injEq, Prod.mk.injEq] at hq
    obtain ⟨z, hz, hzs⟩ := Option.map_eq_some_iff.1 hq.1
    exact ⟨i, z, rfl, hz, hq.2.1, hq.2.2, hzs⟩
theorem info44 : ∃ i z, Try.prog.info? 44 = some i ∧ i.zero = some z ∧ i.size = 4 ∧ i.bytes = 32 ∧ z.cells.size = 4 := by
  have hq : (Try.prog.info? 44).map (fun i => (i.zero.map (fun z => z.cells.size), i.size, i.bytes)) = some (some 4, 4, 32) := by kernel_rfl
  cases hx : Try.prog.info? 44 with
  | none => rw [hx] at hq; simp at hq
  | some i =>
    rw [hx] at hq
    simp only [Option.map_some, Option.some.injEq, Prod.mk.injEq] at hq
    obtain ⟨z, hz, hzs⟩ := Option.map_eq_some_iff.1 hq.1
    exact ⟨i, z, rfl, hz, hq.2.1, hq.2.2, hzs⟩
theorem take_at {α : Type} {L : List α} {i : Nat} {x : α} (h : L[i]? = some x) : L.take (i + 1) = L.take i ++ [x] := by
  rw [List.take_add_one, h]; rfl
/-- A row that can be read. -/
def Rw {α : Type} (en : α → List Value) (sz : Nat) (W : World) (a : Option Addr) (n : Nat) (L : List α) : Prop := L.length = n ∧ ∀ i x, L[i]? = some x → ∃ b C, a = some ⟨b, 0, none⟩ ∧ blk W b = some C ∧ n * sz ≤ C.length ∧ seg C (i * sz) sz = en x
theorem rw_own {α : Type} {e : α → List Value} {sz : Nat} (hsz : ∀ x, (e x).length = sz) {B : Nat} {W : World} {ty : TypeId} {a : Option Addr} {n c : Nat} {K : List α} (h : W.ownsRow B ty sz (.slice a n c) K.length (K.flatMap e)) : Rw e sz W a n K ∧ n ≤ c ∧ c ≤ maxLen := by
  obtain ⟨a', b, c', e1, e2, e3, _, h4, _⟩ := own_at hsz h
  injection e1 with e1a e1b e1c
  subst e1a e1b e1c
  refine ⟨⟨h4.1, fun i x hx => ?_⟩, e3, e2⟩
  have hi : i < K.length := (List.getElem?_eq_some_iff.1 hx).1
  obtain ⟨h5, C, h6, h7, h8⟩ := h4.2 (by omega)
  exact ⟨b, C, h5, h6, by omega, by have := h8 i x hx; rwa [Nat.zero_add] at this⟩
theorem Rw.grow {α : Type} {en : α → List Value} {sz : Nat} {W W' : World} {a : Option Addr} {n : Nat} {L : List α} (h : Rw en sz W a n L) (he : W.Extends W') : Rw en sz W' a n L := ⟨h.1, fun i x hx => by
  obtain ⟨b, C, h1, h2, h3⟩ := h.2 i x hx
  exact ⟨b, C, h1, (he.blk (blk_lt h2)).trans h2, h3⟩⟩
theorem Rw.drewN {α : Type} {en : α → List Value} {sz : Nat} {W : World} {a : Option Addr} {n : Nat} {L : List α} (h : Rw en sz W a n L) (k : Nat) : Rw en sz (W.drewN k) a n L := h
theorem Rw.at {α : Type} {en : α → List Value} {sz : Nat} {W : World} {a : Option Addr} {n : Nat} {L : List α} (h : Rw en sz W a n L) {i : Nat} (hi : i < n) : ∃ x b C, L[i]? = some x ∧ a = some ⟨b, 0, none⟩ ∧ blk W b = some C ∧ n * sz ≤ C.length ∧ seg C (i * sz) sz = en x := by
  have hx : L[i]? = some (L[i]'(by rw [h.1]; exact hi)) := List.getElem?_eq_getElem _
  obtain ⟨b, C, h1, h2, h3, h4⟩ := h.2 i _ hx
  exact ⟨_, b, C, hx, h1, h2, h3, h4⟩
/-- What a block is for. -/
inductive Lab where
  | no
  | a (g n : Nat)
abbrev Own := Nat → Lab
def lab (O : Own) (n : Nat) (l : Lab) : Own := fun k => if k < n then O k else l
theorem lab_lt {O : Own} {n : Nat} {l : Lab} {k : Nat} (h : k < n) : lab O n l k = O k := if_pos h
theorem lab_ge {O : Own} {n : Nat} {l : Lab} {k : Nat} (h : n ≤ k) : lab O n l k = l := if_neg (by omega)
/-- What may change: blocks whose label is in L, and new ones. -/
structure Fr (L : Lab → Prop) (O : Own) (W : World) (O' : Own) (W' : World) : Prop where
  os : W'.os = W.os
  tape : W'.tape = W.tape
  output : W'.output = W.output
  size : W.heap.size ≤ W'.heap.size
  keep : ∀ k, k < W.heap.size → O' k = O k
  block : ∀ k, k < W.heap.size → ¬ L (O k) → W'.heap[k]? = W.heap[k]?
theorem Fr.refl (L : Lab → Prop) (O : Own) (W : World) : Fr L O W O W := ⟨rfl, rfl, rfl, Nat.le_refl _, fun _ _ => rfl, fun _ _ _ => rfl⟩
theorem Fr.trans {L : Lab → Prop} {O O' O'' : Own} {W W' W'' : World} (h : Fr L O W O' W') (h' : Fr L O' W' O'' W'') : Fr L O W O'' W'' :=
  ⟨h'.os.trans h.os, h'.tape.trans h.tape, h'.output.trans h.output, Nat.le_trans h.size h'.size, fun k hk => (h'.keep k (Nat.lt_of_lt_of_le hk h.size)).trans (h.keep k hk), fun k hk hl => (h'.block k (Nat.lt_of_lt_of_le hk h.size) (by rw [h.keep k hk]; exact hl)).trans (h.block k hk hl)⟩
theorem Fr.mono {L L' : Lab → Prop} {O O' : Own} {W W' : World} (h : Fr L O W O' W') (hl : ∀ l, L l → L' l) : Fr L' O W O' W' :=
  ⟨h.os, h.tape, h.output, h.size, h.keep, fun k hk hn => h.block k hk fun h1 => hn (hl _ h1)⟩
theorem Fr.drewN {L : Lab → Prop} {O O' : Own} {W W' : World} (h : Fr L O W O' W') (n : Nat) : Fr L O W O' (W'.drewN n) := ⟨h.os, h.tape, h.output, h.size, h.keep, h.block⟩
theorem Fr.drew {L : Lab → Prop} {O O' : Own} {W W' : World} (h : Fr L O W O' W') : Fr L O W O' W'.drew := ⟨h.os, h.tape, h.output, h.size, h.keep, h.block⟩
theorem Fr.of_drewN {L : Lab → Prop} {O O' : Own} {W W' : World} {n : Nat} (h : Fr L O (W.drewN n) O' W') : Fr L O W O' W' := ⟨h.os, h.tape, h.output, h.size, h.keep, h.block⟩
theorem Fr.put {L : Lab → Prop} {O O' : Own} {W W' : World} (h : Fr L O W O' W') {b : Nat} (hb : L (O' b)) (C : List Value) : Fr L O W O' (Blk.put W' b C) := by
  refine ⟨h.os, h.tape, h.output, by rw [size_put]; exact h.size, h.keep, fun k hk hn => ?_⟩
  rw [heap_put, if_neg (fun e : k = b => hn (by rw [← h.keep k hk, e]; exact hb))]
  exact h.block k hk hn
theorem Fr.put_new {L : Lab → Prop} {O O' : Own} {W W' : World} (h : Fr L O W O' W') {b : Nat} (hb : W.heap.size ≤ b) (C : List Value) : Fr L O W O' (Blk.put W' b C) := by
  refine ⟨h.os, h.tape, h.output, by rw [size_put]; exact h.size, h.keep, fun k hk hn => ?_⟩
  rw [heap_put, if_neg (by omega)]
  exact h.block k hk hn
theorem Fr.of_extends {L : Lab → Prop} {O : Own} {W W' : World} (h : W.Extends W') : Fr L O W O W' := ⟨h.os, h.tape, h.output, h.size, fun _ _ => rfl, fun k hk _ => h.block k hk⟩
theorem Fr.relab {L : Lab → Prop} {O O' : Own} {W W' : World} (h : Fr L O W O' W') (l : Lab) : Fr L O W (lab O' W'.heap.size l) W' := ⟨h.os, h.tape, h.output, h.size, fun k hk => (lab_lt (Nat.lt_of_lt_of_le hk h.size)).trans (h.keep k hk), h.block⟩
theorem Fr.blk {L : Lab → Prop} {O O' : Own} {W W' : World} (h : Fr L O W O' W') {k : Nat} {C : List Value} (hk : blk W k = some C) (hl : ¬ L (O k)) : blk W' k = some C := (blk_of_heap (h.block k (blk_lt hk) hl)).trans hk
theorem Fr.free {L : Lab → Prop} {O O' : Own} {W W' : World} (h : Fr L O W O' W') {k : Nat} {C : List Value} (hk : Blk.blk W k = some C) (hf : Blk.free W k = true) (hl : ¬ L (O k)) : Blk.free W' k = true := (free_of_heap (h.block k (blk_lt hk) hl)).trans hf
theorem Fr.extends {L : Lab → Prop} {O O' : Own} {w0 W W' : World} (h : Fr L O W O' W') (he : w0.Extends W) (hd : ∀ k, k < w0.heap.size → ¬ L (O k)) : w0.Extends W' := by
  have hb : ∀ i, i < w0.heap.size → W'.heap[i]? = w0.heap[i]? := fun i hi => (h.block i (Nat.lt_of_lt_of_le hi he.size) (hd i hi)).trans (he.block i hi)
  exact ⟨h.os.trans he.os, h.tape.trans he.tape, h.output.trans he.output, Nat.le_trans he.size h.size, fun a ha => World.cell?_of_block (hb _ ha), fun a ha => World.frozen?_of_block (hb _ ha), hb⟩
theorem Fr.grown {O : Own} {l : Lab} {W W' : World} {v : Value} (hg : W.grownBy W' v.ownBlock) (hl : ∀ k, v.ownBlock = some k → O k = l) : Fr (fun x => x = l) O W (lab O W.heap.size l) W' :=
  ⟨hg.os, hg.tape, hg.output, hg.size, fun k hk => lab_lt hk, fun k hk hn => hg.block k hk (fun e => hn (hl k e.symm))⟩
/-- A row with its label. -/
def RowL (B : Nat) (O : Own) (l : Lab) (W : World) (e : TypeId) (sz : Nat) (v : Value) (n : Nat) (xs : List Value) : Prop := W.ownsRow B e sz v n xs ∧ ∀ k, v.ownBlock = some k → O k = l
theorem RowL.keep {B : Nat} {O O' : Own} {l : Lab} {W W' : World} {e : TypeId} {sz : Nat} {v : Value} {n : Nat} {xs : List Value} (h : RowL B O l W e sz v n xs) (hw : ∀ k, k < W.heap.size → O k = l → W'.heap[k]? = W.heap[k]? ∧ O' k = O k) : RowL B O' l W' e sz v n xs :=
  ⟨row_keep h.1 (fun k hk => (hw k (row_at h.1 k hk).2.1 (h.2 k hk)).1), fun k hk => ((hw k (row_at h.1 k hk).2.1 (h.2 k hk)).2).trans (h.2 k hk)⟩
theorem RowL.fr {L : Lab → Prop} {B : Nat} {O O' : Own} {l : Lab} {W W' : World} {e : TypeId} {sz : Nat} {v : Value} {n : Nat} {xs : List Value} (h : RowL B O l W e sz v n xs) (hf : Fr L O W O' W') (hl : ¬ L l) : RowL B O' l W' e sz v n xs :=
  h.keep (fun k hk ho => ⟨hf.block k hk (by rw [ho]; exact hl), hf.keep k hk⟩)
theorem RowL.nil (B : Nat) (O : Own) (l : Lab) (W : World) (e : TypeId) (sz : Nat) : RowL B O l W e sz (.slice none 0 0) 0 [] := ⟨⟨by simp, .inl ⟨rfl, rfl⟩⟩, fun k hk => by simp [Value.ownBlock] at hk⟩
theorem RowL.rw {α : Type} {e : α → List Value} {sz : Nat} (hsz : ∀ x, (e x).length = sz) {B : Nat} {O : Own} {l : Lab} {W : World} {ty : TypeId} {a : Option Addr} {n c : Nat} {K : List α} (h : RowL B O l W ty sz (.slice a n c) K.length (K.flatMap e)) : Rw e sz W a n K ∧ n ≤ c ∧ c ≤ maxLen := rw_own hsz h.1
theorem flat_take {α : Type} (en : α → List Value) (sz : Nat) (hsz : ∀ x, (en x).length = sz) : ∀ (K : List α) (D : List Value), K.length * sz ≤ D.length → (∀ i x, K[i]? = some x → seg D (i * sz) sz = en x) → D.take (K.length * sz) = K.flatMap en
  | [], D, _, _ => by simp
  | x :: K, D, hl, h => by
    have h0 := h 0 x rfl
    have ih := flat_take en sz hsz K (D.drop sz) (by rw [List.length_drop]; rw [List.length_cons, Nat.add_mul] at hl; omega) (fun i y hy => by
      have := h (i + 1) y (by simpa using hy)
      unfold seg at this ⊢
      rw [List.drop_drop, show sz + i * sz = (i + 1) * sz by rw [Nat.add_mul]; omega]
      exact this)
    rw [List.flatMap_cons, ← ih, ← h0, List.length_cons, Nat.add_mul, Nat.one_mul, Nat.add_comm, Nat.zero_mul]
    unfold seg
    rw [List.drop_zero, List.take_add]
theorem RowL.open {α : Type} {en : α → List Value} {sz : Nat} (hsz : ∀ x, (en x).length = sz) {B : Nat} {O : Own} {l : Lab} {W : World} {ty : TypeId} {a : Option Addr} {n c : Nat} {K : List α} (h : RowL B O l W ty sz (.slice a n c) K.length (K.flatMap en)) (hn : 0 < n) :
    ∃ g C, a = some ⟨g, 0, none⟩ ∧ blk W g = some C ∧ free W g = true ∧ n * sz ≤ C.length ∧ O g = l ∧ B ≤ g ∧ K.length = n ∧ (∀ i x, K[i]? = some x → seg C (i * sz) sz = en x) ∧
    ∀ (D : List Value) (K' : List α), D.length = C.length → K'.length = K.length → (∀ i x, K'[i]? = some x → seg D (i * sz) sz = en x) → RowL B O l (put W g D) ty sz (.slice a n c) K'.length (K'.flatMap en) := by
  have hr := (rw_own hsz h.1).1
  obtain ⟨⟨h1, h2 | ⟨g, cap, cur, e1, e2, e3, e4, e5, e6, e7⟩⟩, hl⟩ := h
  · have := hr.1; omega
  · injection e1 with e1a e1b e1c
    subst e1a
    subst e1c
    have hg : O g = l := hl g rfl
    have hle : K.length * sz ≤ c * sz := Nat.mul_le_mul_right _ e4
    refine ⟨g, cur.toList, rfl, blk_mk e3, free_mk e3, by rw [Array.length_toList, e6, ← hr.1]; exact hle, hg, e2, hr.1, fun i x hx => ?_, fun D K' hD hK' hs => ?_⟩
    · obtain ⟨b, C, q1, q2, q3, q4⟩ := hr.2 i x hx
      injection q1 with q1; injection q1 with q1
      subst q1
      rw [blk_mk e3] at q2
      injection q2 with q2
      rw [q2]; exact q4
    · have hcl : cur.toList.length = c * sz := by rw [Array.length_toList]; exact e6
      have hDl : K'.length * sz ≤ D.length := by rw [hD, hcl, hK']; exact hle
      have hft := flat_take en sz hsz K' D hDl hs
      refine ⟨⟨?_, .inr ⟨g, c, D.toArray, by rw [hK', e1b], e2, ?_, by rw [hK']; exact e4, e5, by rw [List.size_toArray, hD, hcl], hft⟩⟩, fun k hk => ?_⟩
      · rw [← hft, List.length_take]; omega
      · rw [heap_put, if_pos rfl, e3]; rfl
      · simp [Value.ownBlock] at hk; rw [← hk]; exact hg
/-- One thing appended to a labelled row. -/
theorem appL {α : Type} (en : α → List Value) (sz bytes : Nat) (t e : TypeId) (ht : Try.prog.underlying t = some (.slice e)) (hinfo : ∃ i z, Try.prog.info? e = some i ∧ i.zero = some z ∧ i.size = sz ∧ i.bytes = bytes ∧ z.cells.size = sz) (hln : ∀ x, (en x).length = sz) (hone : ∀ x, (en x).all (fun v => v.oneCell') = true) (hsz : 0 < sz) (hb1 : bytes ≤ 1000)
    {B : Nat} {O : Own} {l : Lab} {W : World} (ty : TypeId) {a : Option Addr} {n c : Nat} {K : List α} (x : α) (h : RowL B O l W e sz (.slice a n c) K.length (K.flatMap en)) (hB : B ≤ W.heap.size) (hl : K.length ≤ 10000000000) (A : Array Value) (hA : A = (en x).toArray) (c1 : Nat) :
    ∃ a' c' W', (Builtin.append_ #[t, t] ty #[.slice a n c, .slice (some ⟨W.heap.size, 0, none⟩) 1 c1]).run Try.prog (W.alloc (.cells A e)) = .ok (.slice a' (n + 1) c') W' ∧ RowL B (lab O W.heap.size l) l W' e sz (.slice a' (n + 1) c') (K ++ [x]).length ((K ++ [x]).flatMap en) ∧ Fr (fun y => y = l) O W (lab O W.heap.size l) W' := by
  subst hA
  have hx1 : W.Extends (W.alloc (.cells (en x).toArray e)) := extends_alloc (ext_Ext (Ext.refl _)) _
  have hrow := row_keep h.1 (fun k hk => hx1.block k (row_at h.1 k hk).2.1)
  obtain ⟨v', W', hr, ho, hg, hbk⟩ := appG en sz bytes t e ht hinfo hln hone hsz hb1 B (W.alloc (.cells (en x).toArray e)) ty (.slice a n c) K x W.heap.size c1 hrow ((blk_alloc _ _ _ _).trans (if_pos rfl)) (Nat.le_trans hB hx1.size) hl
  obtain ⟨a', c', rfl⟩ := row_val ho
  have hKn : K.length = n := (rw_own hln h.1).1.1
  have hm : (K ++ [x]).length = n + 1 := by rw [List.length_append, List.length_singleton, hKn]
  rw [hm] at hr ho hbk
  have hsz1 : W.heap.size ≤ (W.alloc (.cells (en x).toArray e)).heap.size := hx1.size
  refine ⟨a', c', W', hr, ⟨by rw [hm]; exact ho, fun k hk => ?_⟩, ?_⟩
  · rcases hbk with hbk | hbk
    · rw [hbk] at hk
      rw [lab_lt (row_at h.1 k hk).2.1]
      exact h.2 k hk
    · rw [hbk] at hk
      have : k = (W.alloc (.cells (en x).toArray e)).heap.size := (Option.some.inj hk).symm
      exact lab_ge (by omega)
  · have f1 := Fr.of_extends (L := fun y => y = l) (O := O) hx1
    refine ⟨hg.os.trans f1.os, hg.tape.trans f1.tape, hg.output.trans f1.output, Nat.le_trans hsz1 hg.size, fun k hk => lab_lt hk, fun k hk hn => ?_⟩
    exact (hg.block k (by omega) (fun e1 => hn (h.2 k e1.symm))).trans (hx1.block k hk)
theorem RowL.openT {α : Type} {en : α → List Value} {sz : Nat} (hsz : ∀ x, (en x).length = sz) {B : Nat} {O : Own} {l : Lab} {W : World} {ty : TypeId} {a : Option Addr} {n c : Nat} {K : List α} (h : RowL B O l W ty sz (.slice a n c) K.length (K.flatMap en)) (hn : 0 < n) :
    ∃ g C, a = some ⟨g, 0, none⟩ ∧ W.heap[g]? = some (.cells C.toArray ty (0, 0)) ∧ n * sz ≤ C.length ∧ O g = l ∧ B ≤ g ∧ K.length = n ∧ (∀ i x, K[i]? = some x → seg C (i * sz) sz = en x) ∧
    ∀ (O' : Own) (W' : World) (D : List Value) (K' : List α), W'.heap[g]? = some (.cells D.toArray ty (0, 0)) → D.length = C.length → K'.length = K.length → (∀ i x, K'[i]? = some x → seg D (i * sz) sz = en x) → O' g = l → RowL B O' l W' ty sz (.slice a n c) K'.length (K'.flatMap en) := by
  have hr := (rw_own hsz h.1).1
  obtain ⟨⟨h1, h2 | ⟨g, cap, cur, e1, e2, e3, e4, e5, e6, e7⟩⟩, hl⟩ := h
  · have := hr.1; omega
  · injection e1 with e1a e1b e1c
    subst e1a
    subst e1c
    have hg : O g = l := hl g rfl
    have hle : K.length * sz ≤ c * sz := Nat.mul_le_mul_right _ e4
    refine ⟨g, cur.toList, rfl, e3, by rw [Array.length_toList, e6, ← hr.1]; exact hle, hg, e2, hr.1, fun i x hx => ?_, fun O' W' D K' hW hD hK' hs ho => ?_⟩
    · obtain ⟨b, C, q1, q2, q3, q4⟩ := hr.2 i x hx
      injection q1 with q1; injection q1 with q1
      subst q1
      rw [blk_mk e3] at q2
      injection q2 with q2
      rw [q2]; exact q4
    · have hcl : cur.toList.length = c * sz := by rw [Array.length_toList]; exact e6
      have hDl : K'.length * sz ≤ D.length := by rw [hD, hcl, hK']; exact hle
      have hft := flat_take en sz hsz K' D hDl hs
      refine ⟨⟨?_, .inr ⟨g, c, D.toArray, by rw [hK', e1b], e2, hW, by rw [hK']; exact e4, e5, by rw [List.size_toArray, hD, hcl], hft⟩⟩, fun k hk => ?_⟩
      · rw [← hft, List.length_take]; omega
      · simp [Value.ownBlock] at hk; rw [← hk]; exact ho
abbrev Tup := Vector Int 4
def tg (t : Tup) (c : Nat) : Int := t.toList.getD c 0
theorem nth_t (t : Tup) (c : Nat) (hc : c < 4) : nth (arr i64v t) c = some (.int .i64 (tg t c)) := by
  rw [nth_arr_i64 t hc]
  congr 2
  unfold tg
  rw [List.getD_eq_getElem?_getD, List.getElem?_eq_getElem (by simpa using hc)]
  simp
theorem tg_ext {a b : Tup} (h : ∀ c, c < 4 → tg a c = tg b c) : a = b := by
  apply Vector.ext
  intro i hi
  have := h i hi
  unfold tg at this
  rw [List.getD_eq_getElem?_getD, List.getD_eq_getElem?_getD, List.getElem?_eq_getElem (by simpa using hi), List.getElem?_eq_getElem (by simpa using hi)] at this
  simpa using this
theorem part42 (w : World) (a : Tup) {c : Nat} (hc : c < 4) : (part 42 (arr i64v a).toArray c).run Try.prog w = .ok (.int .i64 (tg a c)) w := by
  refine run_part_plain w (by kernel_rfl) ?_
  have := nth_t a c hc
  unfold nth at this
  simpa using this
theorem eqItems_tup (w : World) (d : Nat) (a b : Tup) : ∀ is : List Nat, (∀ i ∈ is, i < 4) → (Op.eqItems (d + 1) 42 1 (arr i64v a).toArray (arr i64v b).toArray is).run Try.prog w = .ok (is.all (fun i => tg a i == tg b i)) w
  | [], _ => by simp [Op.eqItems]
  | i :: is, h => by
    have hi := h i (List.mem_cons_self ..)
    have ih := eqItems_tup w d a b is (fun j hj => h j (List.mem_cons_of_mem _ hj))
    simp only [Op.eqItems, Sem.run_bind, Nat.mul_one, part42 w _ hi, Result.andThen_ok, run_equalIn_int w d 42 .i64 .i64 _ _ Try.underlying42]
    cases hx : (tg a i == tg b i)
    · simp [hx]
    · simp [hx, ih]
theorem eq44 (w : World) (d : Nat) (a b : Tup) : (Op.equalIn (d + 2) 44 (.agg (arr i64v a).toArray) (.agg (arr i64v b).toArray)).run Try.prog w = .ok (decide (a = b)) w := by
  obtain ⟨i, z, hi, _⟩ := info42
  have hc : Try.prog.cellsOf 42 = 1 := by kernel_rfl
  have hb : (List.range 4).all (fun i => tg a i == tg b i) = decide (a = b) := by
    by_cases h : a = b
    · rw [decide_eq_true h, h, List.all_eq_true]
      intro x _; simp
    · rw [decide_eq_false h]
      apply Bool.eq_false_iff.2
      intro h1
      refine h (tg_ext fun c hc => ?_)
      have := List.all_eq_true.1 h1 c (by simpa using hc)
      simpa using this
  rw [run_equalIn_array w (d + 1) _ _ Try.underlying44 hi, hc, eqItems_tup w d a b (List.range 4) (fun j hj => by simpa using hj), hb]
def cmpEq (t : TypeId) (x y : Operand) (u v : Value) : Sem Next := do pure (.value (← (do eqGuard .eql t x y u v; binOp .eql t u v)))
def cmpNe (t : TypeId) (x y : Operand) (u v : Value) : Sem Next := do pure (.value (← (do eqGuard .neq t x y u v; binOp .neq t u v)))
theorem execOp_eql44 (a : Act) (dst : Option Tmp) (x y : Operand) (ty : TypeId) (pos : String) (after : Array Edge) (guard : Option (Nat × Bool)) :
    execOp a.eval { dst, op := .binOp .eql 44 x y 44, type := ty, pos, after, guard } = cmpEq 44 x y (a.eval x) (a.eval y) := rfl
theorem execOp_neq44 (a : Act) (dst : Option Tmp) (x y : Operand) (ty : TypeId) (pos : String) (after : Array Edge) (guard : Option (Nat × Bool)) :
    execOp a.eval { dst, op := .binOp .neq 44 x y 44, type := ty, pos, after, guard } = cmpNe 44 x y (a.eval x) (a.eval y) := rfl
theorem guard44 (w : World) (op : BinOp) (x y : Operand) (a b : Tup) : (eqGuard op 44 x y (.agg (arr i64v a).toArray) (.agg (arr i64v b).toArray)).run Try.prog w = .ok () w := by
  have ht : Try.prog.eqGuardType Try.prog.depth 44 = false := by kernel_rfl
  unfold eqGuard
  cases op <;> simp [Sem.run_bind, run_program, ht]
theorem eql44 (w : World) (x y : Operand) (a b : Tup) : (cmpEq 44 x y (.agg (arr i64v a).toArray) (.agg (arr i64v b).toArray)).run Try.prog w = .ok (.value (.bool (decide (a = b)))) w := by
  have h1 : (binOp .eql 44 (.agg (arr i64v a).toArray) (.agg (arr i64v b).toArray)).run Try.prog w = .ok (.bool (decide (a = b))) w := by rw [run_eql_struct, eq44 w 9998]; rfl
  unfold cmpEq
  simp only [Sem.run_bind, guard44, Result.andThen_ok, h1]
  rfl
theorem neq44 (w : World) (x y : Operand) (a b : Tup) : (cmpNe 44 x y (.agg (arr i64v a).toArray) (.agg (arr i64v b).toArray)).run Try.prog w = .ok (.value (.bool (!decide (a = b)))) w := by
  have h1 : (binOp .neq 44 (.agg (arr i64v a).toArray) (.agg (arr i64v b).toArray)).run Try.prog w = .ok (.bool (!decide (a = b))) w := by rw [run_neq_struct, eq44 w 9998]; rfl
  unfold cmpNe
  simp only [Sem.run_bind, guard44, Result.andThen_ok, h1]
  rfl
theorem seg_off {C X : List Value} {o p n : Nat} (h : o + X.length ≤ C.length) (hd : p + n ≤ o ∨ o + X.length ≤ p) : seg (splice C o X) p n = seg C p n := by
  unfold seg
  apply List.ext_getElem?
  intro r
  rw [List.getElem?_take, List.getElem?_take]
  by_cases hr : r < n
  · rw [if_pos hr, if_pos hr, List.getElem?_drop, List.getElem?_drop]
    unfold splice
    rcases hd with hd | hd
    · rw [List.append_assoc, List.getElem?_append_left (by rw [List.length_take]; omega), List.getElem?_take, if_pos (by omega)]
    · rw [List.getElem?_append_right (by rw [List.length_append, List.length_take]; omega), List.length_append, List.length_take, List.getElem?_drop]
      congr 1
      omega
  · rw [if_neg hr, if_neg hr]
theorem RowL.set {α : Type} {en : α → List Value} {sz : Nat} (hsz : ∀ x, (en x).length = sz) {B : Nat} {O : Own} {l : Lab} {W : World} {ty : TypeId} {a : Option Addr} {n c : Nat} {K : List α} (h : RowL B O l W ty sz (.slice a n c) K.length (K.flatMap en)) {i : Nat} (hi : i < n) (x : α) :
    ∃ g C, a = some ⟨g, 0, none⟩ ∧ blk W g = some C ∧ free W g = true ∧ O g = l ∧ B ≤ g ∧ i * sz + sz ≤ C.length ∧ (∀ i x, K[i]? = some x → seg C (i * sz) sz = en x) ∧ RowL B O l (put W g (splice C (i * sz) (en x))) ty sz (.slice a n c) (K.set i x).length ((K.set i x).flatMap en) := by
  obtain ⟨g, C, e1, e2, e3, e4, e5, e6, e7, e8, e9⟩ := h.open hsz (by omega)
  have hle : (i + 1) * sz ≤ n * sz := Nat.mul_le_mul_right _ hi
  rw [Nat.add_mul, Nat.one_mul] at hle
  refine ⟨g, C, e1, e2, e3, e5, e6, by omega, e8, e9 _ _ (length_splice _ _ _ (by rw [hsz]; omega)) (by simp) (fun j y hy => ?_)⟩
  rw [List.getElem?_set] at hy
  by_cases hij : i = j
  · subst hij
    rw [if_pos rfl, if_pos (by omega)] at hy
    rw [seg_splice0 (by rw [hsz]; omega) (by rw [hsz]; exact Nat.le_refl _), ← Option.some.inj hy, seg_all _ _ (hsz x)]
  · rw [if_neg hij] at hy
    have hj : j < K.length := (List.getElem?_eq_some_iff.1 hy).1
    rw [seg_off (by rw [hsz]; omega) ?_]
    · exact e8 j y hy
    · rw [hsz]
      rcases Nat.lt_or_gt_of_ne hij with h1 | h1
      · right
        have := Nat.mul_le_mul_right sz h1
        rw [Nat.succ_mul] at this; omega
      · left
        have := Nat.mul_le_mul_right sz h1
        rw [Nat.succ_mul] at this; omega
theorem arr4 (t : Tup) : arr i64v t = [.int .i64 (tg t 0), .int .i64 (tg t 1), .int .i64 (tg t 2), .int .i64 (tg t 3)] := by
  apply List.ext_getElem?
  intro c
  by_cases hc : c < 4
  · have := nth_t t c hc
    unfold nth at this
    rw [this]
    have h : c = 0 ∨ c = 1 ∨ c = 2 ∨ c = 3 := by omega
    rcases h with rfl | rfl | rfl | rfl <;> rfl
  · rw [List.getElem?_eq_none (by rw [length_arr]; omega), List.getElem?_eq_none (by simp; omega)]
def tpl (t : Tup) : List Value := arr i64v t
theorem tpl_len (t : Tup) : (tpl t).length = 4 := length_arr _ _
theorem tpl_one (t : Tup) : (tpl t).all (fun v => v.oneCell') = true := one_arr_i64 t
theorem bslice36_lit (w : World) (a b c d : Int) : (bsliceOp 36 1 #[(0, .agg #[.int .i64 a, .int .i64 b, .int .i64 c, .int .i64 d])]).run Try.prog w = .ok (.value (.slice (some ⟨w.heap.size, 0, none⟩) 1 1)) (w.alloc (.cells #[.int .i64 a, .int .i64 b, .int .i64 c, .int .i64 d] 44)) := by kernel_rfl
theorem bslice36 (w : World) (t : Tup) : (bsliceOp 36 1 #[(0, .agg (arr i64v t).toArray)]).run Try.prog w = .ok (.value (.slice (some ⟨w.heap.size, 0, none⟩) 1 1)) (w.alloc (.cells (arr i64v t).toArray 44)) := by
  have h := bslice36_lit w (tg t 0) (tg t 1) (tg t 2) (tg t 3)
  rw [arr4 t]; exact h
/-- Rows of tuples in new memory. -/
def Outs (W V : World) (a : Option Addr) (n c : Nat) (ts : List Tup) : Prop := V.ownsRow W.heap.size 44 4 (.slice a n c) ts.length (ts.flatMap tpl) ∧ W.Extends V ∧ n = ts.length
theorem Outs.ext {W V V' : World} {a : Option Addr} {n c : Nat} {ts : List Tup} (h : Outs W V a n c ts) (he : V.Extends V') : Outs W V' a n c ts :=
  ⟨row_keep h.1 (fun k hk => he.block k (row_at h.1 k hk).2.1), h.2.1.trans he, h.2.2⟩
theorem Outs.nil (W V : World) (he : W.Extends V) : Outs W V none 0 0 [] := ⟨⟨by simp, .inl ⟨rfl, rfl⟩⟩, he, rfl⟩
theorem Outs.app {W V : World} {a : Option Addr} {n c : Nat} {ts : List Tup} (h : Outs W V a n c ts) (t : Tup) (hl : ts.length ≤ 10000000000) :
    ∃ a' c' V', (Builtin.append_ #[36, 36] 36 #[.slice a n c, .slice (some ⟨V.heap.size, 0, none⟩) 1 1]).run Try.prog (V.alloc (.cells (arr i64v t).toArray 44)) = .ok (.slice a' (n + 1) c') V' ∧ Outs W V' a' (n + 1) c' (ts ++ [t]) := by
  have hx1 : V.Extends (V.alloc (.cells (arr i64v t).toArray 44)) := extends_alloc (ext_Ext (Ext.refl _)) _
  have h1 := h.ext hx1
  obtain ⟨v', V', hr, ho, hg, _⟩ := appG tpl 4 32 36 44 Try.underlying36 info44 tpl_len tpl_one (by omega) (by omega) W.heap.size (V.alloc (.cells (arr i64v t).toArray 44)) 36 (.slice a n c) ts t V.heap.size 1 h1.1 ((blk_alloc _ _ _ _).trans (if_pos rfl)) h1.2.1.size (by omega)
  obtain ⟨a', c', rfl⟩ := row_val ho
  have hm : (ts ++ [t]).length = n + 1 := by rw [List.length_append, List.length_singleton, h.2.2]
  rw [hm] at hr
  exact ⟨a', c', V', hr, by rw [← hm]; exact ho, grown_ext h1.2.1 hg (fun k hk => (row_at h1.1 k hk).1), hm.symm⟩
theorem row_base {B B' : Nat} {W : World} {e : TypeId} {size : Nat} {v : Value} {n : Nat} {xs : List Value} (h : W.ownsRow B e size v n xs) (hb : B' ≤ B) : W.ownsRow B' e size v n xs := by
  obtain ⟨h1, h2 | ⟨g, cap, cur, e1, e2, e3, e4⟩⟩ := h
  · exact ⟨h1, .inl h2⟩
  · exact ⟨h1, .inr ⟨g, cap, cur, e1, Nat.le_trans hb e2, e3, e4⟩⟩
theorem Outs.base {W W0 V : World} {a : Option Addr} {n c : Nat} {ts : List Tup} (h : Outs W0 V a n c ts) (he : W.Extends W0) : Outs W V a n c ts := ⟨row_base h.1 he.size, he.trans h.2.1, h.2.2⟩
theorem hid_of {p : Prop} (h : p) : Hid p := h
theorem Rw.ext' {α : Type} {en : α → List Value} {sz : Nat} {W W' : World} {a : Option Addr} {n : Nat} {L : List α} (h : Rw en sz W a n L) (he : W.Extends W') : Rw en sz W' a n L := h.grow he
theorem tup_at {W : World} {a : Option Addr} {n : Nat} {ts : List Tup} (h : Rw tpl 4 W a n ts) {i : Nat} {t : Tup} (ht : ts[i]? = some t) : ∃ b C, a = some ⟨b, 0, none⟩ ∧ blk W b = some C ∧ i * 4 + 4 ≤ C.length ∧ i < n ∧ seg C (i * 4) 4 = arr i64v t := by
  obtain ⟨b, C, h1, h2, h3, h4⟩ := h.2 i t ht
  have hi : i < n := by rw [← h.1]; exact (List.getElem?_eq_some_iff.1 ht).1
  have : (i + 1) * 4 ≤ n * 4 := Nat.mul_le_mul_right _ hi
  exact ⟨b, C, h1, h2, by omega, hi, h4⟩
theorem rw_cell {α : Type} {en : α → List Value} {W : World} {a : Option Addr} {n : Nat} {L : List α} (h : Rw en 1 W a n L) {i : Nat} {x : α} (hx : L[i]? = some x) {v : Value} (hv : en x = [v]) : ∃ b C, a = some ⟨b, 0, none⟩ ∧ blk W b = some C ∧ i + 1 ≤ C.length ∧ i < n ∧ nth C i = some v := by
  obtain ⟨b, C, h1, h2, h3, h4⟩ := h.2 i x hx
  have hi : i < n := by rw [← h.1]; exact (List.getElem?_eq_some_iff.1 hx).1
  rw [Nat.mul_one, hv] at h4
  exact ⟨b, C, h1, h2, by omega, hi, (nth_in (j := 0) h4 rfl (by omega))⟩
end Go.Proofs.Qxb6500788a
