import Derived.Test.Qxb6500788aEf
import Derived.StillTailTactics
import Derived.Deep.QuietTactic
import Derived.BigQuiet
import Derived.Deep.RegionHeld
import Derived.Deep.CutRange
import Derived.Laws.ResultCell
import Derived.Laws.Rows
import Derived.DeepKeys
import Derived.DataBytes
import Derived.Laws.StructEq
import Derived.Laws.AppendOwn
import Derived.Laws.MakeOwn
set_option linter.unusedSimpArgs false
set_option linter.unusedVariables false
namespace Go.Proofs.Qxb6500788a
open Go.RowKit Go.Blk
attribute [local go_sem ↓] execOp_load execOp_store execOp_alloc
attribute [local go_sem] Try.ld24 Try.st24 Try.ld25 Try.st25 Try.ld3 Try.st3 Try.ld30 Try.st30 Try.ld36 Try.st36 Try.ld4 Try.st4 Try.ld41 Try.st41 Try.ld50 Try.st50 Try.ld40 Try.st40 Try.ld42 Try.st42 Try.ld89 Try.st89 Try.ld91 Try.st91 Try.ld56 Try.st56 Try.ld97 Try.st97 Try.ld98 Try.st98 Try.ld101 Try.st101 Try.ld104 Try.st104 Try.ld57 Try.st57 Try.ld130 Try.st130 Try.ld2 Try.st2 Try.ld5 Try.st5 Try.ld9 Try.st9 Try.ld12 Try.st12 Try.ld21 Try.st21 Try.ld22 Try.st22 Try.ld29 Try.st29 Try.ld33 Try.st33 Try.ld59 Try.st59 Try.ld62 Try.st62 Try.ld69 Try.st69 Try.ld94 Try.st94 Try.ld96 Try.st96 Try.ld129 Try.st129 Try.ld158 Try.st158 Try.ld162 Try.st162 Try.ld47 Try.st47 Try.ld44 Try.st44 Try.ld137 Try.st137 Try.ld145 Try.st145 Try.ld43 Try.st43 Try.ld27 Try.st27 Try.ld38 Try.st38 Try.ld46 Try.st46 Try.ld49 Try.st49 Try.ld52 Try.st52 Try.ld54 Try.st54 Try.ld61 Try.st61 Try.ld80 Try.st80 Try.ld87 Try.st87 Try.ld93 Try.st93 Try.ld100 Try.st100 Try.ld103 Try.st103 Try.ld106 Try.st106 Try.ld109 Try.st109 Try.ld132 Try.st132 Try.ld147 Try.st147 Try.al47 Try.al44 Try.al137 Try.al145 Try.al43 Try.al27 Try.al38 Try.al46 Try.al49 Try.al52 Try.al54 Try.al61 Try.al80 Try.al87 Try.al93 Try.al100 Try.al103 Try.al106 Try.al109 Try.al132 Try.al147
attribute [local go_sem] GProgram.length_enc GProgram.ok_enc GProgram.all_get GProgram.all_set GProgram.preds_get GProgram.preds_set GProgram.rules_get GProgram.rules_set GProgram.strata_get GProgram.strata_set Answer.length_enc Answer.ok_enc Answer.all_get Answer.all_set Answer.code_get Answer.code_set Answer.n_get Answer.n_set Answer.rows_get Answer.rows_set Term.length_enc Term.ok_enc Term.all_get Term.all_set Term.var_get Term.var_set Term.n_get Term.n_set Atom.length_enc Atom.ok_enc Atom.all_get Atom.all_set Atom.pred_get Atom.pred_set Atom.args_get Atom.args_set GRule.length_enc GRule.ok_enc GRule.all_get GRule.all_set GRule.head_get GRule.head_set GRule.body_get GRule.body_set GRule.head_pred_get GRule.head_pred_set GRule.head_args_get GRule.head_args_set GOp.length_enc GOp.ok_enc GOp.all_get GOp.all_set GOp.kind_get GOp.kind_set GOp.pred_get GOp.pred_set GOp.t_get GOp.t_set GOp.n_get GOp.n_set GOp.base_get GOp.base_set GOp.rule_get GOp.rule_set GOp.rule_head_get GOp.rule_head_set GOp.rule_body_get GOp.rule_body_set GOp.rule_head_pred_get GOp.rule_head_pred_set GOp.rule_head_args_get GOp.rule_head_args_set PredInfo.length_enc PredInfo.ok_enc PredInfo.all_get PredInfo.all_set PredInfo.arity_get PredInfo.arity_set PredInfo.base_get PredInfo.base_set PredInfo.stratum_get PredInfo.stratum_set GStats.length_enc GStats.ok_enc GStats.all_get GStats.all_set GStats.rounds_get GStats.rounds_set GStats.fired_get GStats.fired_set GStats.emitted_get GStats.emitted_set GStats.fresh_get GStats.fresh_set Literal.length_enc Literal.ok_enc Literal.all_get Literal.all_set Literal.neg_get Literal.neg_set Literal.atom_get Literal.atom_set Literal.atom_pred_get Literal.atom_pred_set Literal.atom_args_get Literal.atom_args_set Engine.length_enc Engine.ok_enc Engine.all_get Engine.all_set Engine.prog_get Engine.prog_set Engine.st_get Engine.st_set Engine.levels_get Engine.levels_set Engine.running_get Engine.running_set Engine.stratum_get Engine.stratum_set Engine.round_get Engine.round_set Engine.saved_get Engine.saved_set Engine.stats_get Engine.stats_set Engine.prog_preds_get Engine.prog_preds_set Engine.prog_rules_get Engine.prog_rules_set Engine.prog_strata_get Engine.prog_strata_set Engine.stats_rounds_get Engine.stats_rounds_set Engine.stats_fired_get Engine.stats_fired_set Engine.stats_emitted_get Engine.stats_emitted_set Engine.stats_fresh_get Engine.stats_fresh_set Level.length_enc Level.ok_enc Level.all_get Level.all_set Level.heads_get Level.heads_set Level.jobs_get Level.jobs_set Plan.length_enc Plan.ok_enc Plan.all_get Plan.all_set Plan.rule_get Plan.rule_set Plan.delta_get Plan.delta_set Plan.src_get Plan.src_set Job.length_enc Job.ok_enc Job.all_get Job.all_set Job.full_get Job.full_set Job.deltas_get Job.deltas_set Job.full_rule_get Job.full_rule_set Job.full_delta_get Job.full_delta_set Job.full_src_get Job.full_src_set GState.length_enc GState.ok_enc GState.all_get GState.all_set GState.prog_get GState.prog_set GState.base_get GState.base_set GState.shown_get GState.shown_set GState.prog_preds_get GState.prog_preds_set GState.prog_rules_get GState.prog_rules_set GState.prog_strata_get GState.prog_strata_set Store.length_enc Store.ok_enc Store.all_get Store.all_set Store.arity_get Store.arity_set Store.rows_get Store.rows_set Env.length_enc Env.ok_enc Env.all_get Env.all_set Env.val_get Env.val_set Env.set_get Env.set_set
attribute [local go_sem] size_put size_ext blk_put free_put blk_alloc free_alloc blk_drew free_drew blk_ext free_ext lookOr_some putOr_some segAt_some cellAt_some storeIn_some put_put put_alloc_new length_arr ok_arr_u8 ok_arr_u32 ok_arr_u64 ok_arr_i64 ok_arr_sl cellsV_agg cellsV_int cellsV_bool cellsV_string cellsV_pointer cellsV_slice cellsV_sl ok_int ok_bool ok_string ok_pointer ok_slice ok_sl toList_arr seg_arr set_arr nth_splice nth_splice0 seg_splice seg_splice0 splice_splice splice_splice0 length_splice_if
attribute [local go_sem ↓] execOp_box
attribute [local go_sem] box_run nth_arr_u8 put_arr_u8 blk_drewN free_drewN put_drewN blk_raw free_raw
def LessP (a b : Tup) : Prop := tg a 0 < tg b 0 ∨ (tg a 0 = tg b 0 ∧ (tg a 1 < tg b 1 ∨ (tg a 1 = tg b 1 ∧ (tg a 2 < tg b 2 ∨ (tg a 2 = tg b 2 ∧ tg a 3 < tg b 3)))))
instance (a b : Tup) : Decidable (LessP a b) := by unfold LessP; infer_instance
theorem less_asymm {a b : Tup} (h : LessP a b) : ¬ LessP b a := by unfold LessP at *; omega
theorem less_tot {a b : Tup} (h : ¬ LessP a b) (h' : ¬ LessP b a) : a = b := by
  unfold LessP at *
  apply tg_ext
  intro c hc
  have hcc : c = 0 ∨ c = 1 ∨ c = 2 ∨ c = 3 := by omega
  rcases hcc with rfl | rfl | rfl | rfl <;> omega
theorem less_le {a b c : Tup} (h : LessP a b) (h' : ¬ LessP c b) : LessP a c := by unfold LessP at *; omega
def SortedT (l : List Tup) : Prop := l.Pairwise (fun a b => ¬ LessP b a)
theorem sorted_eq : ∀ {l l' : List Tup}, SortedT l → SortedT l' → l.Perm l' → l = l'
  | [], l', _, _, h => h.nil_eq
  | a :: l, [], _, _, h => by have := h.length_eq; simp at this
  | a :: l, b :: l', h1, h2, h => by
    unfold SortedT at h1 h2
    rw [List.pairwise_cons] at h1 h2
    have e : a = b := by
      by_cases he : a = b
      · exact he
      · have ha : a ∈ l' := by
          have := h.mem_iff.1 (List.mem_cons_self (a := a) (l := l))
          rcases List.mem_cons.1 this with h | h
          · exact (he h).elim
          · exact h
        have hb : b ∈ l := by
          have := h.mem_iff.2 (List.mem_cons_self (a := b) (l := l'))
          rcases List.mem_cons.1 this with h | h
          · exact (he h.symm).elim
          · exact h
        exact less_tot (h2.1 a ha) (h1.1 b hb)
    subst e
    rw [sorted_eq h1.2 h2.2 h.cons_inv]
/-- x put in at place j. -/
def mid (l : List Tup) (j : Nat) (x : Tup) : List Tup := l.take j ++ x :: l.drop j
theorem mid_get {l : List Tup} {j : Nat} (hj : j ≤ l.length) (x : Tup) (i : Nat) : (mid l j x)[i]? = if i < j then l[i]? else if i = j then some x else l[i - 1]? := by
  unfold mid
  have hlt : (l.take j).length = j := by rw [List.length_take]; omega
  by_cases h1 : i < j
  · rw [if_pos h1, List.getElem?_append_left (by omega), List.getElem?_take, if_pos h1]
  · rw [if_neg h1, List.getElem?_append_right (by omega), hlt]
    by_cases h2 : i = j
    · subst h2
      rw [if_pos rfl, Nat.sub_self]; rfl
    · rw [if_neg h2]
      obtain ⟨d, rfl⟩ : ∃ d, i = j + d + 1 := ⟨i - j - 1, by omega⟩
      rw [show j + d + 1 - j = d + 1 by omega, List.getElem?_cons_succ, List.getElem?_drop, show j + d + 1 - 1 = j + d by omega]
theorem mid_len {l : List Tup} {j : Nat} (hj : j ≤ l.length) (x : Tup) : (mid l j x).length = l.length + 1 := by
  unfold mid
  rw [List.length_append, List.length_cons, List.length_take, List.length_drop]; omega
theorem mid_end (l : List Tup) (x : Tup) : mid l l.length x = l ++ [x] := by unfold mid; rw [List.take_length, List.drop_length]
theorem mid_swap {l : List Tup} {j : Nat} (hj : j + 1 ≤ l.length) {x y : Tup} (hy : l[j]? = some y) : ((mid l (j + 1) x).set (j + 1) y).set j x = mid l j x := by
  apply List.ext_getElem?
  intro i
  rw [List.getElem?_set, List.getElem?_set, mid_get (by omega), mid_get (by omega), List.length_set, mid_len (by omega)]
  by_cases h1 : j = i
  · subst h1
    rw [if_pos rfl, if_pos (by omega), if_neg (by omega), if_pos rfl]
  · rw [if_neg h1]
    by_cases h2 : j + 1 = i
    · subst h2
      rw [if_pos rfl, if_pos (by omega), if_neg (by omega), if_neg (by omega), show j + 1 - 1 = j by omega, hy]
    · rw [if_neg h2]
      by_cases h3 : i < j
      · rw [if_pos (by omega), if_pos h3]
      · rw [if_neg (by omega), if_neg (by omega), if_neg h3, if_neg (by omega)]
theorem mid_perm (l : List Tup) (j : Nat) (x : Tup) : (mid l j x).Perm (x :: l) := by
  unfold mid
  have h := List.perm_middle (a := x) (l₁ := l.take j) (l₂ := l.drop j)
  rw [List.take_append_drop] at h
  exact h
theorem mid_sorted {l : List Tup} {j : Nat} (hj : j ≤ l.length) {x : Tup} (hs : SortedT l) (hd : ∀ y ∈ l.drop j, LessP x y) (hx : ∀ y, 0 < j → l[j - 1]? = some y → ¬ LessP x y) : SortedT (mid l j x) := by
  unfold SortedT mid
  have h0 : (l.take j ++ l.drop j).Pairwise (fun a b => ¬ LessP b a) := by rw [List.take_append_drop]; exact hs
  rw [List.pairwise_append] at h0
  rw [List.pairwise_append, List.pairwise_cons]
  refine ⟨h0.1, ⟨fun b hb => less_asymm (hd b hb), h0.2.1⟩, fun a ha b hb => ?_⟩
  rcases List.mem_cons.1 hb with rfl | hb
  · have hj0 : 0 < j := by
      rcases Nat.eq_zero_or_pos j with e | e
      · rw [e] at ha; simp at ha
      · exact e
    obtain ⟨y, hy⟩ : ∃ y, l[j - 1]? = some y := ⟨_, List.getElem?_eq_getElem (by omega)⟩
    have hxy := hx y hj0 hy
    intro hlt
    obtain ⟨i, hi⟩ := List.mem_iff_getElem?.1 ha
    rw [List.getElem?_take] at hi
    by_cases hij : i < j
    · rw [if_pos hij] at hi
      by_cases he : i = j - 1
      · rw [he, hy] at hi
        rw [Option.some.inj hi] at hxy
        exact hxy hlt
      · have hil : i < l.length := (List.getElem?_eq_some_iff.1 hi).1
        have hjl : j - 1 < l.length := (List.getElem?_eq_some_iff.1 hy).1
        have h2 := (List.pairwise_iff_getElem.1 hs) i (j - 1) hil hjl (by omega)
        have e1 : l[i] = a := by rw [List.getElem?_eq_getElem hil] at hi; exact Option.some.inj hi
        have e2 : l[j - 1] = y := by rw [List.getElem?_eq_getElem hjl] at hy; exact Option.some.inj hy
        rw [e1, e2] at h2
        exact hxy (less_le hlt h2)
    · rw [if_neg hij] at hi; cases hi
  · exact h0.2.2 a ha b hb
def lsI (W0 : World) (b2 b3 : Nat) (a b : Tup) (f : Nat → Value) (W : World) : Prop := f 2 = .pointer (some ⟨b2, 0, none⟩) ∧ f 3 = .pointer (some ⟨b3, 0, none⟩) ∧ Hid (∃ k, W = W0.drewN k) ∧ ∃ c : Nat, c ≤ 4 ∧ f 5 = .int .i64 (c : Nat) ∧ Hid (∀ c', c' < c → tg a c' = tg b c')


set_option maxRecDepth 20000 in
set_option maxHeartbeats 4000000 in
theorem less_any (W : World) (a b : Tup) : Calls Try.prog 69 #[.agg (arr i64v a).toArray, .agg (arr i64v b).toArray] W fun e W' => e = .returned (.bool (decide (LessP a b))) ∧ W.Extends W' := by
  obtain ⟨res, hres⟩ : ∃ res, res = decide (LessP a b) := ⟨_, rfl⟩
  rw [← hres]
  have HRES := hid_of hres
  clear hres
  go_enter Try.func69, Try.ntmps69
  go_upto_region 1 with fail
  refine wp_world (fun W1 => blk W1 W.heap.size = some (arr i64v a) ∧ blk W1 (W.heap.size + 1) = some (arr i64v b) ∧ W.Extends W1) ⟨?_, ?_, extends_alloc (extends_alloc (ext_Ext (Ext.refl _)) _) _⟩ ?_
  · rw [blk_alloc, if_neg (by rw [World.size_alloc]; omega), blk_alloc, if_pos rfl]
  · rw [blk_alloc, if_pos (by rw [World.size_alloc])]
  rintro W1 ⟨hb2, hb3, hx1⟩
  obtain ⟨b3, e3⟩ : ∃ b3, b3 = W.heap.size + 1 := ⟨_, rfl⟩
  obtain ⟨b2, e2⟩ : ∃ b2, b2 = W.heap.size := ⟨_, rfl⟩
  try simp only [World.size_alloc]
  rw [← e3] at hb3 ⊢
  rw [← e2] at hb2 ⊢
  have HX := hid_of hx1
  have HK1 : Hid (blk W1 b2 = some (arr i64v a) ∧ blk W1 b3 = some (arr i64v b)) := ⟨hb2, hb3⟩
  clear e2 e3 hx1 hb2 hb3
  go_wp2_with fail
  have HK0 : Hid (∃ k, W1 = W1.drewN k) := ⟨0, rfl⟩
  refine wp_loop_f 24 (lsI W1 b2 b3 a b) (fun f _ => 4 - (intOf (f 5)).toNat) rfl ⟨rfl, rfl, HK0, 0, by omega, rfl, fun c' h => absurd h (Nat.not_lt_zero _)⟩ ?_
  clear HK0
  intro F V hrel
  obtain ⟨f2, f3, HK, c, hc, f5, HQ⟩ := hrel
  have H5 := hid_of f5
  rw [frame24, f2, f3, f5]
  clear f2 f3 f5
  obtain ⟨k0, hV⟩ := HK.out
  have hb2 : blk V b2 = some (arr i64v a) := by rw [hV, blk_drewN]; exact HK1.out.1
  have hb3 : blk V b3 = some (arr i64v b) := by rw [hV, blk_drewN]; exact HK1.out.2
  by_cases hc4 : c < 4
  · have hc4' : (c : Int) < 4 := by omega
    have hca : nth (arr i64v a) c = some (.int .i64 (tg a c)) := nth_t a c hc4
    have hcb : nth (arr i64v b) c = some (.int .i64 (tg b c)) := nth_t b c hc4
    obtain ⟨xa, hxa⟩ : ∃ xa, xa = tg a c := ⟨_, rfl⟩
    obtain ⟨xb, hxb⟩ : ∃ xb, xb = tg b c := ⟨_, rfl⟩
    rw [← hxa] at hca
    rw [← hxb] at hcb
    have p0 : (0 : Int) ≤ (c : Int) := by omega
    have p2 : ((c : Int)).toNat = c := by omega
    have p3 : c + 1 ≤ 4 := by omega
    have HK' : Hid (∃ k, V.drew = W1.drewN k) := ⟨k0 + 1, by rw [hV]; rfl⟩
    have HXE : Hid (W.Extends V.drew.drew) := by show W.Extends V.drew.drew; rw [hV]; exact extends_drew (extends_drew (extends_drewN HX.out _))
    have hb2d : blk V.drew b2 = some (arr i64v a) := hb2
    have hb3d : blk V.drew b3 = some (arr i64v b) := hb3
    by_cases he : xa = xb
    · have HQ' : Hid (∀ c', c' < c + 1 → tg a c' = tg b c') := by
        intro c' h1
        by_cases h3 : c' = c
        · subst h3; rw [← hxa, ← hxb]; exact he
        · exact HQ.out c' (by omega)
      subst he
      clear HQ hV HK hxa hxb HXE
      go_upto_region 4 with fail
      refine wp_region_held_drew (S := fun W' => blk W' b2 = some (arr i64v a) ∧ blk W' b3 = some (arr i64v b)) (by kernel_rfl) ⟨hb2, hb3⟩ (fun hHeld => ?_)
      refine wpAnyH_take (i := 0) (oi := ⟨_, _, _, _, _, _⟩) (v := ?_) rfl (by kernel_rfl) (by kernel_rfl) (by kernel_rfl) (fun _ _ _ h => h) (Or.inl ⟨by rfl, ?_⟩) (by assumption) ?_
      rotate_left 1
      · intro W' hSw
        obtain ⟨hS1, hS2⟩ := hSw
        go_simp
        try with_reducible rfl
      try simp only [Act.put, List.setIfInBounds_toArray, List.set_cons_zero, List.set_cons_succ]
      refine wpAnyH_take (i := 1) (oi := ⟨_, _, _, _, _, _⟩) (v := ?_) rfl (by kernel_rfl) (by kernel_rfl) (by kernel_rfl) (fun _ _ _ h => h) (Or.inl ⟨by rfl, ?_⟩) (by assumption) ?_
      rotate_left 1
      · intro W' hSw
        obtain ⟨hS1, hS2⟩ := hSw
        go_simp
        try with_reducible rfl
      try simp only [Act.put, List.setIfInBounds_toArray, List.set_cons_zero, List.set_cons_succ]
      refine wpAnyH_take (i := 2) (oi := ⟨_, _, _, _, _, _⟩) (v := ?_) rfl (by kernel_rfl) (by kernel_rfl) (by kernel_rfl) (fun _ _ _ h => h) (Or.inl ⟨by rfl, ?_⟩) (by assumption) ?_
      rotate_left 1
      · intro W' hSw
        obtain ⟨hS1, hS2⟩ := hSw
        go_simp
        try with_reducible rfl
      try simp only [Act.put, List.setIfInBounds_toArray, List.set_cons_zero, List.set_cons_succ]
      refine wpAnyH_take (i := 3) (oi := ⟨_, _, _, _, _, _⟩) (v := ?_) rfl (by kernel_rfl) (by kernel_rfl) (by kernel_rfl) (fun _ _ _ h => h) (Or.inl ⟨by rfl, ?_⟩) (by assumption) ?_
      rotate_left 1
      · intro W' hSw
        obtain ⟨hS1, hS2⟩ := hSw
        go_simp
        try with_reducible rfl
      try simp only [Act.put, List.setIfInBounds_toArray, List.set_cons_zero, List.set_cons_succ]
      refine wpAnyH_take (i := 4) (oi := ⟨_, _, _, _, _, _⟩) (v := ?_) rfl (by kernel_rfl) (by kernel_rfl) (by kernel_rfl) (fun _ _ _ h => h) (Or.inl ⟨by rfl, ?_⟩) (by assumption) ?_
      rotate_left 1
      · intro W' hSw
        obtain ⟨hS1, hS2⟩ := hSw
        go_simp
        try with_reducible rfl
      try simp only [Act.put, List.setIfInBounds_toArray, List.set_cons_zero, List.set_cons_succ]
      refine wpAnyH_take (i := 5) (oi := ⟨_, _, _, _, _, _⟩) (v := ?_) rfl (by kernel_rfl) (by kernel_rfl) (by kernel_rfl) (fun _ _ _ h => h) (Or.inl ⟨by rfl, ?_⟩) (by assumption) ?_
      rotate_left 1
      · intro W' hSw
        obtain ⟨hS1, hS2⟩ := hSw
        go_simp
        try with_reducible rfl
      try simp only [Act.put, List.setIfInBounds_toArray, List.set_cons_zero, List.set_cons_succ]
      refine wpAnyH_take (i := 6) (oi := ⟨_, _, _, _, _, _⟩) (v := ?_) rfl (by kernel_rfl) (by kernel_rfl) (by kernel_rfl) (fun _ _ _ h => h) (Or.inl ⟨by rfl, ?_⟩) (by assumption) ?_
      rotate_left 1
      · intro W' hSw
        obtain ⟨hS1, hS2⟩ := hSw
        go_simp
        try with_reducible rfl
      try simp only [Act.put, List.setIfInBounds_toArray, List.set_cons_zero, List.set_cons_succ]
      refine wpAnyH_done (by kernel_rfl) ?_ _
      go_wp2_with fail
      refine ⟨rfl, rfl, ⟨rfl, rfl, HK', c + 1, by omega, ?_, HQ'⟩, ?_⟩
      · show Value.int .i64 _ = _
        go_num
      · show 4 - (intOf (Value.int .i64 _)).toNat < 4 - (intOf (F 5)).toNat
        rw [H5.out]
        simp [intOf]; omega
    · have hr : res = decide (xa < xb) := by
        rw [HRES.out, hxa, hxb]
        have h0 := HQ.out
        have hne : ¬ tg a c = tg b c := by rw [← hxa, ← hxb]; exact he
        have e : LessP a b ↔ tg a c < tg b c := by
          unfold LessP
          have hcc : c = 0 ∨ c = 1 ∨ c = 2 ∨ c = 3 := by omega
          rcases hcc with rfl | rfl | rfl | rfl
          · omega
          · have := h0 0 (by omega); omega
          · have := h0 0 (by omega); have := h0 1 (by omega); omega
          · have := h0 0 (by omega); have := h0 1 (by omega); have := h0 2 (by omega); omega
        exact decide_eq_decide.2 e
      have heb : (xa != xb) = true := by simp [he]
      have hec : (xa == xb) = false := by simp [he]
      clear HQ hV HK hxa hxb HRES
      subst hr
      go_upto_region 4 with fail
      refine wp_region_held_drew (S := fun W' => blk W' b2 = some (arr i64v a) ∧ blk W' b3 = some (arr i64v b)) (by kernel_rfl) ⟨hb2, hb3⟩ (fun hHeld => ?_)
      refine wpAnyH_take (i := 0) (oi := ⟨_, _, _, _, _, _⟩) (v := ?_) rfl (by kernel_rfl) (by kernel_rfl) (by kernel_rfl) (fun _ _ _ h => h) (Or.inl ⟨by rfl, ?_⟩) (by assumption) ?_
      rotate_left 1
      · intro W' hSw
        obtain ⟨hS1, hS2⟩ := hSw
        go_simp
        try with_reducible rfl
      try simp only [Act.put, List.setIfInBounds_toArray, List.set_cons_zero, List.set_cons_succ]
      refine wpAnyH_take (i := 1) (oi := ⟨_, _, _, _, _, _⟩) (v := ?_) rfl (by kernel_rfl) (by kernel_rfl) (by kernel_rfl) (fun _ _ _ h => h) (Or.inl ⟨by rfl, ?_⟩) (by assumption) ?_
      rotate_left 1
      · intro W' hSw
        obtain ⟨hS1, hS2⟩ := hSw
        go_simp
        try with_reducible rfl
      try simp only [Act.put, List.setIfInBounds_toArray, List.set_cons_zero, List.set_cons_succ]
      refine wpAnyH_take (i := 2) (oi := ⟨_, _, _, _, _, _⟩) (v := ?_) rfl (by kernel_rfl) (by kernel_rfl) (by kernel_rfl) (fun _ _ _ h => h) (Or.inl ⟨by rfl, ?_⟩) (by assumption) ?_
      rotate_left 1
      · intro W' hSw
        obtain ⟨hS1, hS2⟩ := hSw
        go_simp
        try with_reducible rfl
      try simp only [Act.put, List.setIfInBounds_toArray, List.set_cons_zero, List.set_cons_succ]
      refine wpAnyH_take (i := 3) (oi := ⟨_, _, _, _, _, _⟩) (v := ?_) rfl (by kernel_rfl) (by kernel_rfl) (by kernel_rfl) (fun _ _ _ h => h) (Or.inl ⟨by rfl, ?_⟩) (by assumption) ?_
      rotate_left 1
      · intro W' hSw
        obtain ⟨hS1, hS2⟩ := hSw
        go_simp
        try with_reducible rfl
      try simp only [Act.put, List.setIfInBounds_toArray, List.set_cons_zero, List.set_cons_succ]
      refine wpAnyH_take (i := 4) (oi := ⟨_, _, _, _, _, _⟩) (v := ?_) rfl (by kernel_rfl) (by kernel_rfl) (by kernel_rfl) (fun _ _ _ h => h) (Or.inl ⟨by rfl, ?_⟩) (by assumption) ?_
      rotate_left 1
      · intro W' hSw
        obtain ⟨hS1, hS2⟩ := hSw
        go_simp
        try with_reducible rfl
      try simp only [Act.put, List.setIfInBounds_toArray, List.set_cons_zero, List.set_cons_succ]
      refine wpAnyH_take (i := 5) (oi := ⟨_, _, _, _, _, _⟩) (v := ?_) rfl (by kernel_rfl) (by kernel_rfl) (by kernel_rfl) (fun _ _ _ h => h) (Or.inl ⟨by rfl, ?_⟩) (by assumption) ?_
      rotate_left 1
      · intro W' hSw
        obtain ⟨hS1, hS2⟩ := hSw
        go_simp
        try with_reducible rfl
      try simp only [Act.put, List.setIfInBounds_toArray, List.set_cons_zero, List.set_cons_succ]
      refine wpAnyH_take (i := 6) (oi := ⟨_, _, _, _, _, _⟩) (v := ?_) rfl (by kernel_rfl) (by kernel_rfl) (by kernel_rfl) (fun _ _ _ h => h) (Or.inl ⟨by rfl, ?_⟩) (by assumption) ?_
      rotate_left 1
      · intro W' hSw
        obtain ⟨hS1, hS2⟩ := hSw
        go_simp
        try with_reducible rfl
      try simp only [Act.put, List.setIfInBounds_toArray, List.set_cons_zero, List.set_cons_succ]
      refine wpAnyH_done (by kernel_rfl) ?_ _
      go_upto_region 5 with fail
      refine wp_region_held_drew (S := fun W' => blk W' b2 = some (arr i64v a) ∧ blk W' b3 = some (arr i64v b)) (by kernel_rfl) ⟨hb2d, hb3d⟩ (fun hHeld => ?_)
      refine wpAnyH_take (i := 0) (oi := ⟨_, _, _, _, _, _⟩) (v := ?_) rfl (by kernel_rfl) (by kernel_rfl) (by kernel_rfl) (fun _ _ _ h => h) (Or.inl ⟨by rfl, ?_⟩) (by assumption) ?_
      rotate_left 1
      · intro W' hSw
        obtain ⟨hS1, hS2⟩ := hSw
        go_simp
        try with_reducible rfl
      try simp only [Act.put, List.setIfInBounds_toArray, List.set_cons_zero, List.set_cons_succ]
      refine wpAnyH_take (i := 1) (oi := ⟨_, _, _, _, _, _⟩) (v := ?_) rfl (by kernel_rfl) (by kernel_rfl) (by kernel_rfl) (fun _ _ _ h => h) (Or.inl ⟨by rfl, ?_⟩) (by assumption) ?_
      rotate_left 1
      · intro W' hSw
        obtain ⟨hS1, hS2⟩ := hSw
        go_simp
        try with_reducible rfl
      try simp only [Act.put, List.setIfInBounds_toArray, List.set_cons_zero, List.set_cons_succ]
      refine wpAnyH_take (i := 2) (oi := ⟨_, _, _, _, _, _⟩) (v := ?_) rfl (by kernel_rfl) (by kernel_rfl) (by kernel_rfl) (fun _ _ _ h => h) (Or.inl ⟨by rfl, ?_⟩) (by assumption) ?_
      rotate_left 1
      · intro W' hSw
        obtain ⟨hS1, hS2⟩ := hSw
        go_simp
        try with_reducible rfl
      try simp only [Act.put, List.setIfInBounds_toArray, List.set_cons_zero, List.set_cons_succ]
      refine wpAnyH_take (i := 3) (oi := ⟨_, _, _, _, _, _⟩) (v := ?_) rfl (by kernel_rfl) (by kernel_rfl) (by kernel_rfl) (fun _ _ _ h => h) (Or.inl ⟨by rfl, ?_⟩) (by assumption) ?_
      rotate_left 1
      · intro W' hSw
        obtain ⟨hS1, hS2⟩ := hSw
        go_simp
        try with_reducible rfl
      try simp only [Act.put, List.setIfInBounds_toArray, List.set_cons_zero, List.set_cons_succ]
      refine wpAnyH_take (i := 4) (oi := ⟨_, _, _, _, _, _⟩) (v := ?_) rfl (by kernel_rfl) (by kernel_rfl) (by kernel_rfl) (fun _ _ _ h => h) (Or.inl ⟨by rfl, ?_⟩) (by assumption) ?_
      rotate_left 1
      · intro W' hSw
        obtain ⟨hS1, hS2⟩ := hSw
        go_simp
        try with_reducible rfl
      try simp only [Act.put, List.setIfInBounds_toArray, List.set_cons_zero, List.set_cons_succ]
      refine wpAnyH_take (i := 5) (oi := ⟨_, _, _, _, _, _⟩) (v := ?_) rfl (by kernel_rfl) (by kernel_rfl) (by kernel_rfl) (fun _ _ _ h => h) (Or.inl ⟨by rfl, ?_⟩) (by assumption) ?_
      rotate_left 1
      · intro W' hSw
        obtain ⟨hS1, hS2⟩ := hSw
        go_simp
        try with_reducible rfl
      try simp only [Act.put, List.setIfInBounds_toArray, List.set_cons_zero, List.set_cons_succ]
      refine wpAnyH_take (i := 6) (oi := ⟨_, _, _, _, _, _⟩) (v := ?_) rfl (by kernel_rfl) (by kernel_rfl) (by kernel_rfl) (fun _ _ _ h => h) (Or.inl ⟨by rfl, ?_⟩) (by assumption) ?_
      rotate_left 1
      · intro W' hSw
        obtain ⟨hS1, hS2⟩ := hSw
        go_simp
        try with_reducible rfl
      try simp only [Act.put, List.setIfInBounds_toArray, List.set_cons_zero, List.set_cons_succ]
      refine wpAnyH_take (i := 7) (oi := ⟨_, _, _, _, _, _⟩) (v := ?_) rfl (by kernel_rfl) (by kernel_rfl) (by kernel_rfl) (fun _ _ _ h => h) (Or.inl ⟨by rfl, ?_⟩) (by assumption) ?_
      rotate_left 1
      · intro W' hSw
        obtain ⟨hS1, hS2⟩ := hSw
        go_simp
        try with_reducible rfl
      try simp only [Act.put, List.setIfInBounds_toArray, List.set_cons_zero, List.set_cons_succ]
      refine wpAnyH_done (by kernel_rfl) ?_ _
      go_wp2_with fail
      go_ret
      exact ⟨rfl, HXE.out⟩
  have hc4' : ¬ (c : Int) < 4 := by omega
  have hr : res = false := by
    rw [HRES.out]
    refine decide_eq_false ?_
    have h0 := HQ.out
    have := h0 0 (by omega); have := h0 1 (by omega); have := h0 2 (by omega); have := h0 3 (by omega)
    unfold LessP; omega
  have HXE : Hid (W.Extends V) := by show W.Extends V; rw [hV]; exact extends_drewN HX.out _
  clear HQ HRES hV HK
  subst hr
  go_wp2_with fail
  go_ret
  exact ⟨rfl, HXE.out⟩
end Go.Proofs.Qxb6500788a
