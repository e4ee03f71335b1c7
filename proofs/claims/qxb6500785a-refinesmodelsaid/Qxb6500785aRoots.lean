import Derived.Test.Qxb6500785aEmpty
import Derived.Test.Qxb6500785aKnown
import Derived.Deep.RegionHeld
import Derived.Deep.CutRange
import Derived.Laws.ResultCell
import Derived.Laws.Rows
set_option linter.unusedSimpArgs false
set_option linter.unusedVariables false
namespace Go.Proofs.Qxb6500785a
open Go.RowKit Go.Blk
attribute [local go_sem ↓] execOp_load execOp_store execOp_alloc
attribute [local go_sem] Try.ld24 Try.st24 Try.ld5 Try.st5 Try.ld3 Try.st3 Try.ld27 Try.st27 Try.ld32 Try.st32 Try.ld33 Try.st33 Try.ld4 Try.st4 Try.ld41 Try.st41 Try.ld40 Try.st40 Try.ld42 Try.st42 Try.ld47 Try.st47 Try.ld48 Try.st48 Try.ld57 Try.st57 Try.ld58 Try.st58 Try.ld2 Try.st2 Try.ld9 Try.st9 Try.ld12 Try.st12 Try.ld21 Try.st21 Try.ld22 Try.st22 Try.ld46 Try.st46 Try.ld83 Try.st83 Try.ld95 Try.st95 Try.ld99 Try.st99 Try.ld106 Try.st106 Try.ld108 Try.st108 Try.ld134 Try.st134 Try.ld25 Try.st25 Try.ld26 Try.st26 Try.ld34 Try.st34 Try.ld31 Try.st31 Try.ld30 Try.st30 Try.ld74 Try.st74 Try.ld96 Try.st96 Try.ld101 Try.st101 Try.ld115 Try.st115 Try.ld116 Try.st116 Try.ld120 Try.st120 Try.ld121 Try.st121 Try.ld122 Try.st122 Try.ld29 Try.st29 Try.ld36 Try.st36 Try.ld38 Try.st38 Try.ld44 Try.st44 Try.ld50 Try.st50 Try.ld60 Try.st60 Try.ld110 Try.st110 Try.al25 Try.al26 Try.al34 Try.al31 Try.al30 Try.al74 Try.al96 Try.al101 Try.al115 Try.al116 Try.al120 Try.al121 Try.al122 Try.al29 Try.al36 Try.al38 Try.al44 Try.al50 Try.al60 Try.al110
attribute [local go_sem] Hasher.length_enc Hasher.ok_enc Hasher.all_get Hasher.all_set Hasher.state_get Hasher.state_set Hasher.block_get Hasher.block_set Hasher.fill_get Hasher.fill_set Hasher.length_get Hasher.length_set GLog.length_enc GLog.ok_enc GLog.all_get GLog.all_set GLog.entries_get GLog.entries_set GLog.shelves_get GLog.shelves_set GLog.first_get GLog.first_set GLog.second_get GLog.second_set GLog.found_get GLog.found_set Player.length_enc Player.ok_enc Player.all_get Player.all_set Player.hand_get Player.hand_set Player.aside_get Player.aside_set Player.prev_get Player.prev_set Player.last_get Player.last_set Player.log_get Player.log_set Player.hand_state_get Player.hand_state_set Player.hand_block_get Player.hand_block_set Player.hand_fill_get Player.hand_fill_set Player.hand_length_get Player.hand_length_set Player.aside_state_get Player.aside_state_set Player.aside_block_get Player.aside_block_set Player.aside_fill_get Player.aside_fill_set Player.aside_length_get Player.aside_length_set Player.log_entries_get Player.log_entries_set Player.log_shelves_get Player.log_shelves_set Player.log_first_get Player.log_first_set Player.log_second_get Player.log_second_set Player.log_found_get Player.log_found_set GOp.length_enc GOp.ok_enc GOp.all_get GOp.all_set GOp.kind_get GOp.kind_set GOp.data_get GOp.data_set GOp.cut_get GOp.cut_set GOp.n_get GOp.n_set GOp.b_get GOp.b_set GOp.v_get GOp.v_set GOp.dom_get GOp.dom_set GOp.sum_get GOp.sum_set Answer.length_enc Answer.ok_enc Answer.all_get Answer.all_set Answer.code_get Answer.code_set Answer.sum_get Answer.sum_set Answer.len_get Answer.len_set Answer.mark_get Answer.mark_set Answer.noted_get Answer.noted_set Answer.collided_get Answer.collided_set GState.length_enc GState.ok_enc GState.all_get GState.all_set GState.hand_get GState.hand_set GState.aside_get GState.aside_set GState.prev_get GState.prev_set GState.last_get GState.last_set GState.inputs_get GState.inputs_set GState.sums_get GState.sums_set GState.collided_get GState.collided_set GState.older_get GState.older_set GState.younger_get GState.younger_set Noted.length_enc Noted.ok_enc Noted.all_get Noted.all_set Noted.input_get Noted.input_set Noted.sum_get Noted.sum_set
attribute [local go_sem] size_put size_ext blk_put free_put blk_alloc free_alloc blk_drew free_drew blk_ext free_ext lookOr_some putOr_some segAt_some cellAt_some storeIn_some put_put put_alloc_new length_arr ok_arr_u8 ok_arr_u32 ok_arr_u64 ok_arr_i64 ok_arr_sl cellsV_agg cellsV_int cellsV_bool cellsV_string cellsV_pointer cellsV_slice cellsV_sl ok_int ok_bool ok_string ok_pointer ok_slice ok_sl toList_arr seg_arr set_arr nth_splice nth_splice0 seg_splice seg_splice0 splice_splice splice_splice0 length_splice_if
attribute [local go_sem] w32_and w32_or w32_xor w32_add w32_or8 w32_not w8_and w8_or w8_xor w32_shr2 w32_shl2 w32_shr3 w32_shl3 w32_shr6 w32_shl6 w32_shr7 w32_shl7 w32_shr8 w32_shl8 w32_shr10 w32_shl10 w32_shr11 w32_shl11 w32_shr13 w32_shl13 w32_shr14 w32_shl14 w32_shr15 w32_shl15 w32_shr16 w32_shl16 w32_shr17 w32_shl17 w32_shr18 w32_shl18 w32_shr19 w32_shl19 w32_shr21 w32_shl21 w32_shr22 w32_shl22 w32_shr24 w32_shl24 w32_shr25 w32_shl25 w32_shr26 w32_shl26 w32_shr30 w32_shl30 w8_shl24 w8_shl16 w8_shl8 v32_add v32_byte w32_byte0 v8_shl24 v8_shl16 v8_shl8 v32_shr2 v32_shl2 v32_shr3 v32_shl3 v32_shr6 v32_shl6 v32_shr7 v32_shl7 v32_shr8 v32_shl8 v32_shr10 v32_shl10 v32_shr11 v32_shl11 v32_shr13 v32_shl13 v32_shr14 v32_shl14 v32_shr15 v32_shl15 v32_shr16 v32_shl16 v32_shr17 v32_shl17 v32_shr18 v32_shl18 v32_shr19 v32_shl19 v32_shr21 v32_shl21 v32_shr22 v32_shl22 v32_shr24 v32_shl24 v32_shr25 v32_shl25 v32_shr26 v32_shl26 v32_shr30 v32_shl30
attribute [local go_sem ↓] execOp_build
attribute [local go_sem] run_build_kv run_build_iv nth_arr_u32 put_arr_u32 nth_arr_u8 put_arr_u8 v32_of8 blk_drewN free_drewN put_drewN put_drew blk_raw free_raw
attribute [local go_sem ↓] execOp_slice execOp_copy
attribute [local go_sem] Try.sl40lo Try.sl40hi Try.sl26lo Try.sl26hi Try.sl26 Try.sl96lo Try.sl96hi Try.sl96 Try.sl31lo Try.sl31 Try.sl120 Try.sl121 Try.sl121lo Try.sl121hi Try.cp40 copyOr_some copyIn_some srcB_drew srcB_drewN srcB_raw length_bv one_bv
attribute [local go_sem] Hasher.length_zero
attribute [local go_sem] Try.cpv copyOrV_some
attribute [local go_sem ↓] execOp_index execOp_convert execOp_box execOp_convert9
attribute [local go_sem] index_hex box_run conv_bytes eq31
attribute [local go_sem] build31
theorem flat_seg {α : Type} (f : α → List Value) (m : Nat) (h : ∀ x, (f x).length = m) : ∀ (L : List α) (i : Nat) (hi : i < L.length), seg (L.flatMap f) (i * m) m = f L[i] := by
  intro L
  induction L with
  | nil => intro i hi; simp at hi
  | cons x L ih =>
    intro i hi
    unfold seg at ih ⊢
    cases i with
    | zero =>
      rw [Nat.zero_mul, List.drop_zero, List.flatMap_cons, List.take_append_of_le_length (by rw [h]; exact Nat.le_refl _), List.take_of_length_le (by rw [h]; exact Nat.le_refl _)]
      rfl
    | succ i =>
      have e : (i + 1) * m = m + i * m := by rw [Nat.succ_mul, Nat.add_comm]
      rw [List.flatMap_cons, e, List.drop_append, List.drop_of_length_le (by rw [h]; omega), h, Nat.add_sub_cancel_left, List.nil_append]
      exact ih i (by simpa using hi)
theorem flat_put {α : Type} (f : α → List Value) (m : Nat) (h : ∀ x, (f x).length = m) (y : α) : ∀ (L : List α) (i : Nat) (hi : i < L.length), splice (L.flatMap f) (i * m) (f y) = (L.set i y).flatMap f := by
  intro L
  induction L with
  | nil => intro i hi; simp at hi
  | cons x L ih =>
    intro i hi
    unfold splice at ih ⊢
    cases i with
    | zero =>
      rw [Nat.zero_mul, List.take_zero, List.nil_append, Nat.zero_add, List.flatMap_cons, List.drop_append, List.drop_of_length_le (by rw [h, h]; exact Nat.le_refl _), h, h, Nat.sub_self, List.drop_zero, List.nil_append]
      rfl
    | succ i =>
      have e : (i + 1) * m = m + i * m := by rw [Nat.succ_mul, Nat.add_comm]
      have ih' := ih i (by simpa using hi)
      rw [List.flatMap_cons, e, List.take_append, List.take_of_length_le (by rw [h]; omega), h, Nat.add_sub_cancel_left, List.drop_append, List.drop_of_length_le (by rw [h, h]; omega), h, h, List.nil_append]
      rw [show m + i * m + m - m = i * m + m by omega, List.set_cons_succ, List.flatMap_cons, ← ih', h, List.append_assoc, List.append_assoc, List.append_assoc]
def rootsK (k : Nat) : Vector (Vector UInt8 32) 11 := Vector.ofFn fun j : Fin 11 => if j.val < k then emptyR j.val else Vector.replicate 32 0
def rootsL (k : Nat) : List Value := arrS (fun x => arr u8v x) (rootsK k)
theorem length_roots (k : Nat) : (rootsL k).length = 352 := length_arrS _ _ (m := 32) fun x => length_arr _ _
theorem roots_at (k i : Nat) (h : i < k) (h' : i < 11) : seg (rootsL k) (i * 32) 32 = arr u8v (emptyR i) := by
  unfold rootsL arrS
  rw [flat_seg _ 32 (fun x => length_arr _ _) _ _ (by simpa using h')]
  simp [rootsK, h]
theorem roots_put (k : Nat) (h : k < 11) : splice (rootsL k) (k * 32) (arr u8v (emptyR k)) = rootsL (k + 1) := by
  unfold rootsL arrS
  rw [flat_put (fun x => arr u8v x) 32 (fun x => length_arr _ _) (emptyR k) _ _ (by simpa using h)]
  congr 1
  apply List.ext_getElem?
  intro j
  rw [List.getElem?_set]
  by_cases hj : k = j
  · subst hj; simp [rootsK, h]
  · rw [if_neg hj]
    by_cases hj2 : j < 11
    · have e : j < k ↔ j < k + 1 := by omega
      simp [rootsK, hj2, e]
    · simp [hj2]
theorem roots_zero : arrS (fun x => arr u8v x) (Vector.replicate 11 (Vector.replicate 32 (0 : UInt8))) = rootsL 0 := by
  have e : Vector.replicate 11 (Vector.replicate 32 (0 : UInt8)) = rootsK 0 := by
    apply Vector.ext
    intro i hi
    simp [rootsK]
  rw [e]
  rfl
theorem roots_first : splice (arrS (fun x => arr u8v x) (Vector.replicate 11 (Vector.replicate 32 (0 : UInt8)))) 0 (arr u8v (emptyR 0)) = rootsL 1 := by
  rw [roots_zero]
  exact roots_put 0 (by omega)
theorem one_roots (k : Nat) : (rootsL k).all (fun v => v.oneCell') = true := one_arrS _ _ fun x => one_arr_u8 _
theorem ok_roots (k : Nat) : okCells 352 (rootsL k) = true := ok_mk (length_roots k) (one_roots k)
set_option maxRecDepth 100000 in
theorem frame24 (f : Nat → Value) : frameN 24 f = #[f 0, f 1, f 2, f 3, f 4, f 5, f 6, f 7, f 8, f 9, f 10, f 11, f 12, f 13, f 14, f 15, f 16, f 17, f 18, f 19, f 20, f 21, f 22, f 23] := by kernel_rfl
def erI (w : World) (f : Nat → Value) (W : World) : Prop :=
  f 0 = .pointer (some ⟨w.heap.size, 0, none⟩) ∧ f 1 = .pointer (some ⟨w.heap.size + 1, 0, none⟩) ∧ ∃ k : Nat, 1 ≤ k ∧ k ≤ 11 ∧ f 2 = .int .i64 (k : Nat) ∧
    blk W w.heap.size = some (rootsL 0) ∧ free W w.heap.size = true ∧ blk W (w.heap.size + 1) = some (rootsL k) ∧ free W (w.heap.size + 1) = true ∧ Hid (Ext w W)
set_option maxRecDepth 20000 in
set_option maxHeartbeats 2000000 in
theorem roots_any (w : World) : Calls Try.prog 36 #[] w fun e w' => e = .returned (.agg (rootsL 11).toArray) ∧ Ext w w' := by
  go_enter Try.func36, Try.ntmps36
  go_wp2_with fail
  refine (tagged_ok _ 0 4 none 0 0 [] (nil_bytes _ _) (by decide) (by omega)).mono ?_
  rintro e w2 ⟨rfl, hE⟩
  have hr : blk w2 w.heap.size = some (rootsL 0) := by
    rw [hE.blk (by simp only [World.size_alloc]; omega), blk_alloc, if_neg (by simp only [World.size_alloc]; omega), blk_alloc, if_pos rfl, ← roots_zero]
  have hrf : free w2 w.heap.size = true := by
    rw [hE.free (by simp only [World.size_alloc]; omega), free_alloc, if_neg (by simp only [World.size_alloc]; omega), free_alloc, if_pos rfl]
  have ht : blk w2 (w.heap.size + 1) = some (rootsL 0) := by
    rw [hE.blk (by simp only [World.size_alloc]; omega), blk_alloc, if_pos (by simp only [World.size_alloc]), ← roots_zero]
  have htf : free w2 (w.heap.size + 1) = true := by
    rw [hE.free (by simp only [World.size_alloc]; omega), free_alloc, if_pos (by simp only [World.size_alloc])]
  have hsz : w.heap.size + 2 ≤ w2.heap.size := by have := hE.size; simp only [World.size_alloc] at this; omega
  have HE : Hid (Ext w w2) := (((Ext.refl w).alloc _).alloc _).trans hE
  have hl0 := length_roots 0
  rw [show sha [4] = emptyR 0 from rfl]
  clear hE
  go_wp2_with fail
  have hp := roots_put 0 (by omega)
  rw [Nat.zero_mul] at hp
  refine wp_loop_f 24 (erI w) (fun f _ => 11 - (intOf (f 2)).toNat) rfl ?_ ?_
  · refine ⟨rfl, rfl, 1, by omega, by omega, rfl, ?_, ?_, ?_, ?_, HE.out.put_new _ _ (by omega)⟩
    · rw [blk_put, if_neg (by omega)]; exact hr
    · rw [free_put]; exact hrf
    · rw [blk_put, if_pos rfl, ht, hp]; rfl
    · rw [free_put]; exact htf
  clear hr hrf ht htf HE hp hsz hl0
  intro F W hrel
  obtain ⟨h0, h1, k, hk1, hk, h2, hr, hrf, ht, htf, HE⟩ := hrel
  have H2 : Hid (F 2 = .int .i64 (k : Nat)) := h2
  rw [frame24, h0, h1, h2]
  clear h0 h1 h2
  have hlt := blk_lt ht
  have hlk := length_roots k
  by_cases hk11 : k < 11
  · obtain ⟨j, rfl⟩ : ∃ j, k = j + 1 := ⟨k - 1, by omega⟩
    have e1 : IntKind.i64.wrap (((j + 1 : Nat) : Int) - 1) = (j : Int) := by rw [wraps_i64 _ (by omega) (by omega)]; omega
    have e1' : IntKind.i64.wrap ((j : Int) + 1 - 1) = (j : Int) := by rw [wraps_i64 _ (by omega) (by omega)]; omega
    have e1w : IntKind.i64.wrap (j : Int) = (j : Int) := wraps_i64 _ (by omega) (by omega)
    have q0 : (0 : Int) ≤ (j : Int) := by omega
    have q1 : (j : Int) < 11 := by omega
    have q2 : ((j : Int)).toNat = j := by omega
    have q3 : (0 : Int) ≤ (j : Int) + 1 := by omega
    have q4 : (j : Int) + 1 < 11 := by omega
    have q5 : ((j : Int) + 1).toNat = j + 1 := by omega
    have s1 := roots_at (j + 1) j (by omega) (by omega)
    have s2 := roots_put (j + 1) hk11
    have q6 : j * 32 + 32 ≤ 352 := by omega
    have q7 : (j + 1) * 32 + 32 ≤ 352 := by omega
    go_wp2_with fail
    refine wp_region_held_drew (S := fun W => (∃ C, blk W (w.heap.size + 1) = some C ∧ C.length = 352 ∧ seg C (j * 32) 32 = arr u8v (emptyR j))) (by kernel_rfl) ⟨_, ht, hlk, s1⟩ (fun hHeld => ?_)
    refine wpAnyH_take (i := 0) (oi := ⟨_, _, _, _, _, _⟩) (v := ?_) rfl (by kernel_rfl) (by kernel_rfl) (by kernel_rfl) (fun _ _ _ h => h) (Or.inl ⟨by rfl, ?_⟩) (by assumption) ?_
    rotate_left 1
    · intro W' hSw
      obtain ⟨C', hS1, hS2, hS3⟩ := hSw
      go_simp
      try with_reducible rfl
    try simp only [Act.put, List.setIfInBounds_toArray, List.set_cons_zero, List.set_cons_succ]
    refine wpAnyH_take (i := 1) (oi := ⟨_, _, _, _, _, _⟩) (v := ?_) rfl (by kernel_rfl) (by kernel_rfl) (by kernel_rfl) (fun _ _ _ h => h) (Or.inl ⟨by rfl, ?_⟩) (by assumption) ?_
    rotate_left 1
    · intro W' hSw
      obtain ⟨C', hS1, hS2, hS3⟩ := hSw
      go_simp
      try with_reducible rfl
    try simp only [Act.put, List.setIfInBounds_toArray, List.set_cons_zero, List.set_cons_succ]
    refine wpAnyH_take (i := 2) (oi := ⟨_, _, _, _, _, _⟩) (v := ?_) rfl (by kernel_rfl) (by kernel_rfl) (by kernel_rfl) (fun _ _ _ h => h) (Or.inl ⟨by rfl, ?_⟩) (by assumption) ?_
    rotate_left 1
    · intro W' hSw
      obtain ⟨C', hS1, hS2, hS3⟩ := hSw
      go_simp
      try with_reducible rfl
    try simp only [Act.put, List.setIfInBounds_toArray, List.set_cons_zero, List.set_cons_succ]
    refine wpAnyH_take (i := 3) (oi := ⟨_, _, _, _, _, _⟩) (v := ?_) rfl (by kernel_rfl) (by kernel_rfl) (by kernel_rfl) (fun _ _ _ h => h) (Or.inl ⟨by rfl, ?_⟩) (by assumption) ?_
    rotate_left 1
    · intro W' hSw
      obtain ⟨C', hS1, hS2, hS3⟩ := hSw
      go_simp
      try with_reducible rfl
    try simp only [Act.put, List.setIfInBounds_toArray, List.set_cons_zero, List.set_cons_succ]
    refine wpAnyH_take (i := 4) (oi := ⟨_, _, _, _, _, _⟩) (v := ?_) rfl (by kernel_rfl) (by kernel_rfl) (by kernel_rfl) (fun _ _ _ h => h) (Or.inl ⟨by rfl, ?_⟩) (by assumption) ?_
    rotate_left 1
    · intro W' hSw
      obtain ⟨C', hS1, hS2, hS3⟩ := hSw
      go_simp
      try with_reducible rfl
    try simp only [Act.put, List.setIfInBounds_toArray, List.set_cons_zero, List.set_cons_succ]
    refine wpAnyH_take (i := 5) (oi := ⟨_, _, _, _, _, _⟩) (v := ?_) rfl (by kernel_rfl) (by kernel_rfl) (by kernel_rfl) (fun _ _ _ h => h) (Or.inl ⟨by rfl, ?_⟩) (by assumption) ?_
    rotate_left 1
    · intro W' hSw
      obtain ⟨C', hS1, hS2, hS3⟩ := hSw
      go_simp
      try with_reducible rfl
    try simp only [Act.put, List.setIfInBounds_toArray, List.set_cons_zero, List.set_cons_succ]
    refine wpAnyH_take (i := 6) (oi := ⟨_, _, _, _, _, _⟩) (v := ?_) rfl (by kernel_rfl) (by kernel_rfl) (by kernel_rfl) (fun _ _ _ h => h) (Or.inl ⟨by rfl, ?_⟩) (by assumption) ?_
    rotate_left 1
    · intro W' hSw
      obtain ⟨C', hS1, hS2, hS3⟩ := hSw
      go_simp
      try with_reducible rfl
    try simp only [Act.put, List.setIfInBounds_toArray, List.set_cons_zero, List.set_cons_succ]
    refine wpAnyH_take (i := 7) (oi := ⟨_, _, _, _, _, _⟩) (v := ?_) rfl (by kernel_rfl) (by kernel_rfl) (by kernel_rfl) (fun _ _ _ h => h) (Or.inl ⟨by rfl, ?_⟩) (by assumption) ?_
    rotate_left 1
    · intro W' hSw
      obtain ⟨C', hS1, hS2, hS3⟩ := hSw
      go_simp
      try with_reducible rfl
    try simp only [Act.put, List.setIfInBounds_toArray, List.set_cons_zero, List.set_cons_succ]
    refine wpAnyH_take (i := 8) (oi := ⟨_, _, _, _, _, _⟩) (v := ?_) rfl (by kernel_rfl) (by kernel_rfl) (by kernel_rfl) (fun _ _ _ h => h) (Or.inl ⟨by rfl, ?_⟩) (by assumption) ?_
    rotate_left 1
    · intro W' hSw
      obtain ⟨C', hS1, hS2, hS3⟩ := hSw
      go_simp
      try with_reducible rfl
    try simp only [Act.put, List.setIfInBounds_toArray, List.set_cons_zero, List.set_cons_succ]
    refine wpAnyH_ready (rs := [9]) (by kernel_rfl) (by simp) ?_
    refine AllReadyH.cons (o := ⟨_, _, _, _, _, _⟩) rfl (fun K hK => ?_) AllReadyH.nil
    go_simp
    refine (node_any _ (emptyR j) (emptyR j)).mono ?_
    rintro e w3 ⟨rfl, hE3⟩
    have ht3 := (hE3.blk (b := w.heap.size + 1) hlt).trans ht
    have htf3 := (hE3.free (b := w.heap.size + 1) hlt).trans htf
    have hr3 := (hE3.blk (b := w.heap.size) (show w.heap.size < W.heap.size by omega)).trans hr
    have hrf3 := (hE3.free (b := w.heap.size) (show w.heap.size < W.heap.size by omega)).trans hrf
    have HE3 : Hid (Ext w w3) := (HE.out.drew).trans hE3
    rw [show nodeD (emptyR j) (emptyR j) = emptyR (j + 1) from rfl]
    dsimp only
    refine hK.out _ _ ?_ (fun hHeld => ?_)
    · exact ⟨_, ht3, hlk, s1⟩
    clear hK K
    clear hE3
    try simp only [Act.put, List.setIfInBounds_toArray, List.set_cons_zero, List.set_cons_succ]
    refine wpAnyH_take (i := 10) (oi := ⟨_, _, _, _, _, _⟩) (v := ?_) rfl (by kernel_rfl) (by kernel_rfl) (by kernel_rfl) (fun _ _ _ h => h) (Or.inl ⟨by rfl, ?_⟩) (by assumption) ?_
    rotate_left 1
    · intro W' hSw
      obtain ⟨C', hS1, hS2, hS3⟩ := hSw
      go_simp
      try with_reducible rfl
    try simp only [Act.put, List.setIfInBounds_toArray, List.set_cons_zero, List.set_cons_succ]
    refine wpAnyH_ready (rs := [11]) (by kernel_rfl) (by simp) ?_
    refine AllReadyH.cons (o := ⟨_, _, _, _, _, _⟩) rfl (fun K hK => ?_) AllReadyH.nil
    go_simp
    refine hK.out _ _ ?_ (fun hHeld => ?_)
    · refine ⟨rootsL (j + 1 + 1), ?_, length_roots _, roots_at _ j (by omega) (by omega)⟩
      rw [blk_put, if_pos rfl, ht3]; rfl
    clear hK K
    try simp only [Act.put, List.setIfInBounds_toArray, List.set_cons_zero, List.set_cons_succ]
    refine wpAnyH_done (by kernel_rfl) ?_ _
    go_wp2_with fail
    refine ⟨rfl, rfl, ?_, ?_⟩
    · refine ⟨rfl, rfl, j + 1 + 1, by omega, by omega, ?_, ?_, ?_, ?_, ?_, HE3.out.put_new _ _ (by omega)⟩
      · show Value.int .i64 _ = _
        go_num
      · rw [blk_put, if_neg (by omega)]; exact hr3
      · rw [free_put]; exact hrf3
      · rw [blk_put, if_pos rfl, ht3]; rfl
      · rw [free_put]; exact htf3
    · show 11 - (intOf (Value.int .i64 _)).toNat < 11 - (intOf (F 2)).toNat
      rw [H2.out]
      simp [intOf]; omega
  · obtain rfl : k = 11 := by omega
    have hne : ¬ w.heap.size + 1 = w.heap.size := by omega
    have hl0 := length_roots 0
    have ho := ok_roots 11
    have hall : seg (rootsL 11) 0 352 = rootsL 11 := seg_all _ _ (length_roots 11)
    have hset : splice (rootsL 0) 0 (rootsL 11) = rootsL 11 := splice_all _ _ (by rw [length_roots, length_roots])
    go_wp2_with fail
    refine ret_cell (C := rootsL 11) rfl rfl (by rw [blk_put, if_pos rfl, hr]; rfl) (by kernel_rfl) (by rw [length_roots]; kernel_rfl) rfl ?_
    exact ⟨rfl, HE.out.put_new _ _ (Nat.le_refl _)⟩
end Go.Proofs.Qxb6500785a
