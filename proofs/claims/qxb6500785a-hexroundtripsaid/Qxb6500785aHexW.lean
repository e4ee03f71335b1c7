import Derived.Test.Qxb6500785aNodeW
import Derived.Laws.Cover1
import Derived.Test.Qxb6500785aKnown
import Derived.Deep.RegionHeld
import Derived.Deep.CutRange
import Derived.Laws.ResultCell
import Derived.Laws.Rows
set_option linter.unusedSimpArgs false
set_option linter.unusedVariables false
namespace Go.Proofs.Qxb6500785a
open Go.RowKit Go.Blk
attribute [local go_sem ↓] execOp_load execOp_store execOp_alloc
attribute [local go_sem] Try.ld24 Try.st24 Try.ld5 Try.st5 Try.ld3 Try.st3 Try.ld27 Try.st27 Try.ld32 Try.st32 Try.ld33 Try.st33 Try.ld4 Try.st4 Try.ld41 Try.st41 Try.ld40 Try.st40 Try.ld42 Try.st42 Try.ld47 Try.st47 Try.ld48 Try.st48 Try.ld57 Try.st57 Try.ld58 Try.st58 Try.ld2 Try.st2 Try.ld9 Try.st9 Try.ld12 Try.st12 Try.ld21 Try.st21 Try.ld22 Try.st22 Try.ld46 Try.st46 Try.ld83 Try.st83 Try.ld95 Try.st95 Try.ld99 Try.st99 Try.ld106 Try.st106 Try.ld108 Try.st108 Try.ld134 Try.st134 Try.ld25 Try.st25 Try.ld26 Try.st26 Try.ld34 Try.st34 Try.ld31 Try.st31 Try.ld30 Try.st30 Try.ld74 Try.st74 Try.ld96 Try.st96 Try.ld101 Try.st101 Try.ld115 Try.st115 Try.ld116 Try.st116 Try.ld120 Try.st120 Try.ld121 Try.st121 Try.ld122 Try.st122 Try.ld29 Try.st29 Try.ld36 Try.st36 Try.ld38 Try.st38 Try.ld44 Try.st44 Try.ld50 Try.st50 Try.ld60 Try.st60 Try.ld110 Try.st110 Try.al25 Try.al26 Try.al34 Try.al31 Try.al30 Try.al74 Try.al96 Try.al101 Try.al115 Try.al116 Try.al120 Try.al121 Try.al122 Try.al29 Try.al36 Try.al38 Try.al44 Try.al50 Try.al60 Try.al110
attribute [local go_sem] Hasher.length_enc Hasher.ok_enc Hasher.all_get Hasher.all_set Hasher.state_get Hasher.state_set Hasher.block_get Hasher.block_set Hasher.fill_get Hasher.fill_set Hasher.length_get Hasher.length_set GLog.length_enc GLog.ok_enc GLog.all_get GLog.all_set GLog.entries_get GLog.entries_set GLog.shelves_get GLog.shelves_set GLog.first_get GLog.first_set GLog.second_get GLog.second_set GLog.found_get GLog.found_set Player.length_enc Player.ok_enc Player.all_get Player.all_set Player.hand_get Player.hand_set Player.aside_get Player.aside_set Player.prev_get Player.prev_set Player.last_get Player.last_set Player.log_get Player.log_set Player.hand_state_get Player.hand_state_set Player.hand_block_get Player.hand_block_set Player.hand_fill_get Player.hand_fill_set Player.hand_length_get Player.hand_length_set Player.aside_state_get Player.aside_state_set Player.aside_block_get Player.aside_block_set Player.aside_fill_get Player.aside_fill_set Player.aside_length_get Player.aside_length_set Player.log_entries_get Player.log_entries_set Player.log_shelves_get Player.log_shelves_set Player.log_first_get Player.log_first_set Player.log_second_get Player.log_second_set Player.log_found_get Player.log_found_set GOp.length_enc GOp.ok_enc GOp.all_get GOp.all_set GOp.kind_get GOp.kind_set GOp.data_get GOp.data_set GOp.cut_get GOp.cut_set GOp.n_get GOp.n_set GOp.b_get GOp.b_set GOp.v_get GOp.v_set GOp.dom_get GOp.dom_set GOp.sum_get GOp.sum_set Answer.length_enc Answer.ok_enc Answer.all_get Answer.all_set Answer.code_get Answer.code_set Answer.sum_get Answer.sum_set Answer.len_get Answer.len_set Answer.mark_get Answer.mark_set Answer.noted_get Answer.noted_set Answer.collided_get Answer.collided_set GState.length_enc GState.ok_enc GState.all_get GState.all_set GState.hand_get GState.hand_set GState.aside_get GState.aside_set GState.prev_get GState.prev_set GState.last_get GState.last_set GState.inputs_get GState.inputs_set GState.sums_get GState.sums_set GState.collided_get GState.collided_set GState.older_get GState.older_set GState.younger_get GState.younger_set Noted.length_enc Noted.ok_enc Noted.all_get Noted.all_set Noted.input_get Noted.input_set Noted.sum_get Noted.sum_set
attribute [local go_sem] size_put size_ext blk_put free_put blk_alloc free_alloc blk_drew free_drew blk_ext free_ext lookOr_some putOr_some segAt_some cellAt_some storeIn_some put_put put_alloc_new length_arr ok_arr_u8 ok_arr_u32 ok_arr_u64 ok_arr_i64 ok_arr_sl cellsV_agg cellsV_int cellsV_bool cellsV_string cellsV_pointer cellsV_slice cellsV_sl ok_int ok_bool ok_string ok_pointer ok_slice ok_sl toList_arr seg_arr set_arr nth_splice nth_splice0 seg_splice seg_splice0 splice_splice splice_splice0 length_splice_if
attribute [local go_sem] w32_and w32_or w32_xor w32_add w32_or8 w32_not w8_and w8_or w8_xor w32_shr2 w32_shl2 w32_shr3 w32_shl3 w32_shr6 w32_shl6 w32_shr7 w32_shl7 w32_shr8 w32_shl8 w32_shr10 w32_shl10 w32_shr11 w32_shl11 w32_shr13 w32_shl13 w32_shr14 w32_shl14 w32_shr15 w32_shl15 w32_shr16 w32_shl16 w32_shr17 w32_shl17 w32_shr18 w32_shl18 w32_shr19 w32_shl19 w32_shr21 w32_shl21 w32_shr22 w32_shl22 w32_shr24 w32_shl24 w32_shr25 w32_shl25 w32_shr26 w32_shl26 w32_shr30 w32_shl30 w8_shl24 w8_shl16 w8_shl8 v32_add v32_byte w32_byte0 v8_shl24 v8_shl16 v8_shl8 v32_shr2 v32_shl2 v32_shr3 v32_shl3 v32_shr6 v32_shl6 v32_shr7 v32_shl7 v32_shr8 v32_shl8 v32_shr10 v32_shl10 v32_shr11 v32_shl11 v32_shr13 v32_shl13 v32_shr14 v32_shl14 v32_shr15 v32_shl15 v32_shr16 v32_shl16 v32_shr17 v32_shl17 v32_shr18 v32_shl18 v32_shr19 v32_shl19 v32_shr21 v32_shl21 v32_shr22 v32_shl22 v32_shr24 v32_shl24 v32_shr25 v32_shl25 v32_shr26 v32_shl26 v32_shr30 v32_shl30
attribute [local go_sem ↓] execOp_build
attribute [local go_sem] run_build_kv run_build_iv nth_arr_u32 put_arr_u32 nth_arr_u8 put_arr_u8 v32_of8 blk_drewN free_drewN put_drewN put_drew blk_raw free_raw
attribute [local go_sem ↓] execOp_slice execOp_copy
attribute [local go_sem] Try.sl40lo Try.sl40hi Try.sl26lo Try.sl26hi Try.sl26 Try.sl96lo Try.sl96hi Try.sl96 Try.sl31lo Try.sl31 Try.sl120 Try.sl121 Try.sl121lo Try.sl121hi Try.cp40 copyOr_some copyIn_some srcB_drew srcB_drewN srcB_raw length_bv one_bv
attribute [local go_sem] Hasher.length_zero
attribute [local go_sem] Try.cpv copyOrV_some
attribute [local go_sem ↓] execOp_index execOp_convert execOp_box execOp_convert9
attribute [local go_sem] index_hex box_run conv_bytes eq31
attribute [local go_sem] build31
theorem getD_get {l : List UInt8} {i : Nat} (h : i < l.length) : l.getD i 0 = l[i] := by simp [h]
theorem getD_hexK (d : Vector UInt8 32) (j : Nat) (h : j < 64) : (hexOf d).getD j 0 = if j % 2 = 0 then hexD ((d.toList.getD (j / 2) 0).toNat / 16) else hexD ((d.toList.getD (j / 2) 0).toNat % 16) := by
  have hl : j < (hexOf d).length := by simp [hexOf]; exact h
  rw [getD_get hl]
  simp only [hexOf, hexK, Vector.getElem_toList, Vector.getElem_ofFn]
  rw [if_pos (by omega)]
theorem length_hexOf (d : Vector UInt8 32) : (hexOf d).length = 64 := by simp [hexOf]
def hx (xs : List UInt8) : List UInt8 := xs.flatMap fun x => [hexD (x.toNat / 16), hexD (x.toNat % 16)]
theorem length_hx (xs : List UInt8) : (hx xs).length = 2 * xs.length := by
  induction xs with
  | nil => rfl
  | cons x xs ih =>
    show (hexD (x.toNat / 16) :: hexD (x.toNat % 16) :: hx xs).length = _
    simp only [List.length_cons, ih]
    omega
theorem getD_hx (xs : List UInt8) : ∀ j, j < 2 * xs.length → (hx xs).getD j 0 = if j % 2 = 0 then hexD ((xs.getD (j / 2) 0).toNat / 16) else hexD ((xs.getD (j / 2) 0).toNat % 16) := by
  induction xs with
  | nil => intro j h; simp at h
  | cons x xs ih =>
    intro j h
    have e : hx (x :: xs) = hexD (x.toNat / 16) :: hexD (x.toNat % 16) :: hx xs := rfl
    rw [e]
    match j with
    | 0 => rfl
    | 1 => rfl
    | j + 2 =>
      rw [List.getD_cons_succ, List.getD_cons_succ, ih j (by simp at h; omega)]
      have e1 : (j + 2) % 2 = j % 2 := by omega
      have e2 : (j + 2) / 2 = j / 2 + 1 := by omega
      rw [e1, e2, List.getD_cons_succ]
theorem hexOf_hx (d : Vector UInt8 32) : hexOf d = hx d.toList := by
  apply List.ext_getElem
  · rw [length_hexOf, length_hx]; simp
  · intro j h1 h2
    have a := getD_hexK d j (by rw [length_hexOf] at h1; exact h1)
    have b := getD_hx d.toList j (by rw [length_hx] at h2; exact h2)
    rw [getD_get h1] at a
    rw [getD_get h2] at b
    rw [a, b]
theorem hexD_lt : ∀ i : Fin 16, ∀ j : Fin 16, (hexD i.val < hexD j.val ↔ i.val < j.val) ∧ (hexD i.val = hexD j.val ↔ i.val = j.val) := by decide
theorem hexD_lt' {i j : Nat} (hi : i < 16) (hj : j < 16) : (hexD i < hexD j ↔ i < j) ∧ (hexD i = hexD j ↔ i = j) := hexD_lt ⟨i, hi⟩ ⟨j, hj⟩
theorem u8_lt (x y : UInt8) : x < y ↔ x.toNat < y.toNat := Iff.rfl
theorem less_hx : ∀ (xs ys : List UInt8), Op.bytesLess (hx xs) (hx ys) = Op.bytesLess xs ys
  | _, [] => by cases ‹List UInt8› <;> rfl
  | [], y :: ys => rfl
  | x :: xs, y :: ys => by
    have ih := less_hx xs ys
    have e : ∀ (x : UInt8) (xs : List UInt8), hx (x :: xs) = hexD (x.toNat / 16) :: hexD (x.toNat % 16) :: hx xs := fun _ _ => rfl
    rw [e, e]
    simp only [Op.bytesLess, ih]
    have hx8 := w8_lt x
    have hy8 := w8_lt y
    have h1 := hexD_lt' (i := x.toNat / 16) (j := y.toNat / 16) (by omega) (by omega)
    have h2 := hexD_lt' (i := x.toNat % 16) (j := y.toNat % 16) (by omega) (by omega)
    have h3 : (x = y) ↔ x.toNat = y.toNat := UInt8.toNat_inj.symm
    have h4 : x < y ↔ x.toNat < y.toNat := u8_lt x y
    apply Bool.eq_iff_iff.2
    simp only [Bool.or_eq_true, Bool.and_eq_true, decide_eq_true_eq, beq_iff_eq, h1.1, h1.2, h2.1, h2.2, h3, h4]
    by_cases hP : Op.bytesLess xs ys = true
    · simp only [hP, and_true]; omega
    · simp only [hP, and_false, or_false]; simp only [Bool.false_eq_true, and_false, or_false]; omega
theorem hexOf_less (a b : Vector UInt8 32) : Op.bytesLess (hexOf a) (hexOf b) = Op.bytesLess a.toList b.toList := by rw [hexOf_hx, hexOf_hx, less_hx]
theorem nib_hexD : ∀ i : Fin 16, nibV (hexD i.val) = some (UInt8.ofNat i.val) := by decide
set_option maxRecDepth 100000 in
theorem byte_parts : ∀ n : Fin 256, (UInt8.ofNat (n.val / 16) <<< 4 ||| UInt8.ofNat (n.val % 16)) = UInt8.ofNat n.val := by decide
theorem byte_parts' (x : UInt8) : (UInt8.ofNat (x.toNat / 16) <<< 4 ||| UInt8.ofNat (x.toNat % 16)) = x := by
  have h := byte_parts ⟨x.toNat, by have := w8_lt x; omega⟩
  rw [h]
  simp
theorem parse_hexN (d : Vector UInt8 32) : ∀ i, i ≤ 32 → ∃ v, parseN (hexOf d) i = some v ∧ ∀ j (h : j < 32), v[j] = if j < i then d[j] else 0 := by
  intro i
  induction i with
  | zero => intro _; exact ⟨_, rfl, fun j h => by simp⟩
  | succ i ih =>
    intro hi
    obtain ⟨v, h1, h2⟩ := ih (by omega)
    have hd : d.toList.getD i 0 = d[i] := by rw [getD_get (by simp; omega)]; simp
    have hb := w8_lt d[i]
    have g1 : nibV ((hexOf d).getD (2 * i) 0) = some (UInt8.ofNat (d[i].toNat / 16)) := by
      rw [getD_hexK d _ (by omega), if_pos (by omega), show 2 * i / 2 = i by omega, hd]
      exact nib_hexD ⟨d[i].toNat / 16, by omega⟩
    have g2 : nibV ((hexOf d).getD (2 * i + 1) 0) = some (UInt8.ofNat (d[i].toNat % 16)) := by
      rw [getD_hexK d _ (by omega), if_neg (by omega), show (2 * i + 1) / 2 = i by omega, hd]
      exact nib_hexD ⟨d[i].toNat % 16, by omega⟩
    refine ⟨_, parseN_some h1 (by omega) g1 g2, fun j h => ?_⟩
    rw [byte_parts', Vector.getElem_set]
    by_cases e : i = j
    · subst e; simp
    · rw [if_neg e, h2 j h]
      by_cases q : j < i
      · rw [if_pos q, if_pos (by omega)]
      · rw [if_neg q, if_neg (by omega)]
theorem parse_hex (d : Vector UInt8 32) : parseH (hexOf d) = some d := by
  unfold parseH
  rw [if_pos (length_hexOf d)]
  obtain ⟨v, h1, h2⟩ := parse_hexN d 32 (Nat.le_refl _)
  have hv : v = d := by
    apply Vector.ext
    intro j hj
    rw [h2 j hj, if_pos hj]
  rw [← hv, hv]
  exact h1.trans (congrArg some hv)
set_option maxRecDepth 100000 in
theorem nib_back : ∀ n : Fin 256, ((nibV (UInt8.ofNat n.val)).all fun a => decide (a.toNat < 16) && decide (hexD a.toNat = UInt8.ofNat n.val)) = true := by decide
theorem nib_back' {c a : UInt8} (h : nibV c = some a) : a.toNat < 16 ∧ hexD a.toNat = c := by
  have := nib_back ⟨c.toNat, by have := w8_lt c; omega⟩
  rw [show UInt8.ofNat c.toNat = c by simp] at this
  rw [h] at this
  simpa using this
set_option maxRecDepth 100000 in
theorem parts_back : ∀ i : Fin 16, ∀ j : Fin 16, (UInt8.ofNat i.val <<< 4 ||| UInt8.ofNat j.val).toNat / 16 = i.val ∧ (UInt8.ofNat i.val <<< 4 ||| UInt8.ofNat j.val).toNat % 16 = j.val := by decide
theorem parts_back' {a b : UInt8} (ha : a.toNat < 16) (hb : b.toNat < 16) : (a <<< 4 ||| b).toNat / 16 = a.toNat ∧ (a <<< 4 ||| b).toNat % 16 = b.toNat := by
  have := parts_back ⟨a.toNat, ha⟩ ⟨b.toNat, hb⟩
  simpa using this
theorem parseN_at (xs : List UInt8) : ∀ i d, parseN xs i = some d → i ≤ 32 → ∀ j (hj : j < 32), j < i → ∃ a b, nibV (xs.getD (2 * j) 0) = some a ∧ nibV (xs.getD (2 * j + 1) 0) = some b ∧ d[j] = (a <<< 4 ||| b) := by
  intro i
  induction i with
  | zero => intro d _ _ j _ h; omega
  | succ i ih =>
    intro d h hi j hj hji
    have h' : parseK xs i (parseN xs i) = some d := h
    cases hp : parseN xs i with
    | none => rw [hp] at h'; simp [parseK] at h'
    | some d0 =>
      rw [hp] at h'
      simp only [parseK] at h'
      cases ha : nibV (xs.getD (2 * i) 0) with
      | none => rw [ha] at h'; simp at h'
      | some a =>
        cases hb : nibV (xs.getD (2 * i + 1) 0) with
        | none => rw [ha, hb] at h'; simp at h'
        | some b =>
          rw [ha, hb] at h'
          simp only [show i < 32 by omega, dif_pos, Option.some.injEq] at h'
          subst h'
          by_cases e : i = j
          · subst e
            exact ⟨a, b, ha, hb, by simp⟩
          · obtain ⟨a', b', q1, q2, q3⟩ := ih d0 hp (by omega) j hj (by omega)
            exact ⟨a', b', q1, q2, by rw [Vector.getElem_set, if_neg e]; exact q3⟩
theorem hex_parse {xs : List UInt8} {d : Vector UInt8 32} (h : parseH xs = some d) : hexOf d = xs := by
  unfold parseH at h
  by_cases hl : xs.length = 64
  · rw [if_pos hl] at h
    apply List.ext_getElem
    · rw [length_hexOf, hl]
    · intro j h1 h2
      have hj : j < 64 := by omega
      obtain ⟨a, b, q1, q2, q3⟩ := parseN_at xs 32 d h (Nat.le_refl _) (j / 2) (by omega) (by omega)
      have hg := getD_hexK d j hj
      rw [getD_get h1, getD_get (show j / 2 < d.toList.length by simp; omega)] at hg
      simp only [Vector.getElem_toList] at hg
      rw [hg, q3]
      obtain ⟨ha, ha'⟩ := nib_back' q1
      obtain ⟨hb, hb'⟩ := nib_back' q2
      obtain ⟨p1, p2⟩ := parts_back' ha hb
      rw [p1, p2]
      by_cases e : j % 2 = 0
      · rw [if_pos e, ha', show 2 * (j / 2) = j by omega, getD_get h2]
      · rw [if_neg e, hb', show 2 * (j / 2) + 1 = j by omega, getD_get h2]
  · rw [if_neg hl] at h; simp at h
def cmpD (a b : Vector UInt8 32) : Int := if Op.bytesLess a.toList b.toList = true then -1 else if a = b then 0 else 1
theorem less_at : ∀ (i : Nat) (xs ys : List UInt8), xs.take i = ys.take i → i < xs.length → i < ys.length → (xs.getD i 0).toNat < (ys.getD i 0).toNat → Op.bytesLess xs ys = true
  | 0, x :: xs, y :: ys, _, _, _, h => by
    simp only [List.getD_cons_zero] at h
    simp only [Op.bytesLess, Bool.or_eq_true, decide_eq_true_eq]
    exact .inl h
  | i + 1, x :: xs, y :: ys, ht, hx, hy, h => by
    simp only [List.take_succ_cons, List.cons.injEq] at ht
    simp only [List.getD_cons_succ] at h
    have ih := less_at i xs ys ht.2 (by simp at hx; omega) (by simp at hy; omega) h
    simp [Op.bytesLess, ht.1, ih]
  | _, [], _, _, hx, _, _ => by simp at hx
  | _, _ :: _, [], _, _, hy, _ => by simp at hy
theorem more_at : ∀ (i : Nat) (xs ys : List UInt8), xs.take i = ys.take i → i < xs.length → i < ys.length → (ys.getD i 0).toNat < (xs.getD i 0).toNat → Op.bytesLess xs ys = false ∧ xs ≠ ys
  | 0, x :: xs, y :: ys, _, _, _, h => by
    simp only [List.getD_cons_zero] at h
    have h1 : ¬ x < y := by rw [u8_lt]; omega
    have h2 : ¬ x = y := by rintro rfl; omega
    refine ⟨by simp [Op.bytesLess, h1, h2], fun e => ?_⟩
    simp at e
    exact h2 e.1
  | i + 1, x :: xs, y :: ys, ht, hx, hy, h => by
    simp only [List.take_succ_cons, List.cons.injEq] at ht
    simp only [List.getD_cons_succ] at h
    have ih := more_at i xs ys ht.2 (by simp at hx; omega) (by simp at hy; omega) h
    obtain ⟨rfl, _⟩ := ht
    refine ⟨?_, fun e => ?_⟩
    · have : ¬ x < x := by rw [u8_lt]; omega
      simp [Op.bytesLess, ih.1, this]
    · simp at e
      exact ih.2 e
  | _, [], _, _, hx, _, _ => by simp at hx
  | _, _ :: _, [], _, _, hy, _ => by simp at hy
theorem less_irrefl : ∀ xs : List UInt8, Op.bytesLess xs xs = false
  | [] => rfl
  | x :: xs => by
    have : ¬ x < x := by rw [u8_lt]; omega
    simp [Op.bytesLess, this, less_irrefl xs]
set_option maxRecDepth 100000 in
theorem frame22 (f : Nat → Value) : frameN 22 f = #[f 0, f 1, f 2, f 3, f 4, f 5, f 6, f 7, f 8, f 9, f 10, f 11, f 12, f 13, f 14, f 15, f 16, f 17, f 18, f 19, f 20, f 21] := by kernel_rfl
def cpI (w : World) (a b : Vector UInt8 32) (f : Nat → Value) (W : World) : Prop :=
  f 2 = .pointer (some ⟨w.heap.size, 0, none⟩) ∧ f 3 = .pointer (some ⟨w.heap.size + 1, 0, none⟩) ∧ ∃ i : Nat, i ≤ 32 ∧ f 5 = .int .i64 (i : Nat) ∧ Hid (a.toList.take i = b.toList.take i) ∧
    blk W w.heap.size = some (arr u8v a) ∧ blk W (w.heap.size + 1) = some (arr u8v b) ∧ Hid (Ext w W)
theorem _root_.Go.Blk.Ext.drewN {w W : World} (h : Ext w W) (n : Nat) : Ext w (W.drewN n) := by obtain ⟨G, m, rfl⟩ := h; exact ⟨G, m + n, by simp [World.drewN, Blk.ext, Nat.add_assoc]⟩
theorem getD_vec (a : Vector UInt8 32) (i : Nat) (h : i < 32) : a.toList.getD i 0 = a[i] := by rw [getD_get (by simp; exact h)]; simp
set_option maxRecDepth 20000 in
set_option maxHeartbeats 2000000 in
theorem compare_any (w : World) (a b : Vector UInt8 32) :
    Calls Try.prog 33 #[.agg (arr u8v a).toArray, .agg (arr u8v b).toArray] w fun e w' => e = .returned (.int .i64 (cmpD a b)) ∧ Ext w w' := by
  go_enter Try.func33, Try.ntmps33
  go_wp2_with fail
  refine wp_loop_f 24 (cpI w a b) (fun f _ => 32 - (intOf (f 5)).toNat) rfl ?_ ?_
  · refine ⟨rfl, rfl, 0, by omega, rfl, rfl, ?_, ?_, ((Ext.refl w).alloc _).alloc _⟩
    · rw [blk_alloc, if_neg (by rw [World.size_alloc]; omega), blk_alloc, if_pos rfl]
    · rw [blk_alloc, if_pos (by rw [World.size_alloc])]
  intro F W hrel
  obtain ⟨h2, h3, i, hi, h5, HT, hb, hc, HE⟩ := hrel
  have H5 : Hid (F 5 = .int .i64 (i : Nat)) := h5
  rw [frame24, h2, h3, h5]
  clear h2 h3 h5
  by_cases hil : i < 32
  · have q0 : (0 : Int) ≤ (i : Int) := by omega
    have q1 : (i : Int) < 32 := by omega
    have q2 : ((i : Int)).toNat = i := by omega
    have hxn : w8 a[i] = (a[i].toNat : Int) := rfl
    have hyn : w8 b[i] = (b[i].toNat : Int) := rfl
    by_cases h1 : a[i].toNat < b[i].toNat
    · have k1 : w8 a[i] < w8 b[i] := by rw [hxn, hyn]; omega
      clear hxn hyn
      go_wp2_with fail
      go_quiet (fail)
      go_wp2_with fail
      go_ret
      refine ⟨?_, HE.out.drewN _⟩
      have := less_at i _ _ HT.out (by simp; exact hil) (by simp; exact hil) (by rw [getD_vec a i hil, getD_vec b i hil]; exact h1)
      rw [show cmpD a b = -1 by unfold cmpD; rw [if_pos this]]
      rfl
    · have k1 : ¬ w8 a[i] < w8 b[i] := by rw [hxn, hyn]; omega
      by_cases h2 : b[i].toNat < a[i].toNat
      · have k2 : w8 b[i] < w8 a[i] := by rw [hxn, hyn]; omega
        clear hxn hyn
        go_wp2_with fail
        go_quiet (fail)
        go_wp2_with fail
        go_quiet (fail)
        go_wp2_with fail
        go_ret
        refine ⟨?_, by first | exact HE.out.drewN _ | exact (HE.out.drewN _).drewN _⟩
        have := more_at i _ _ HT.out (by simp; exact hil) (by simp; exact hil) (by rw [getD_vec a i hil, getD_vec b i hil]; exact h2)
        rw [show cmpD a b = 1 by unfold cmpD; rw [if_neg (by rw [this.1]; simp), if_neg (fun e => this.2 (by rw [e]))]]
        rfl
      · have k2 : ¬ w8 b[i] < w8 a[i] := by rw [hxn, hyn]; omega
        have exy : a[i] = b[i] := UInt8.toNat_inj.1 (by omega)
        clear hxn hyn
        go_wp2_with fail
        go_quiet (fail)
        go_wp2_with fail
        go_quiet (fail)
        go_wp2_with fail
        refine ⟨rfl, rfl, ?_, ?_⟩
        · refine ⟨rfl, rfl, i + 1, by omega, ?_, ?_, hb, hc, HE.out.drewN _⟩
          · show Value.int .i64 _ = _
            go_num
          · exact take_next _ _ i HT.out (by simp; exact hil) (by simp; exact hil) (by rw [getD_vec a i hil, getD_vec b i hil]; exact exy)
        · show 32 - (intOf (Value.int .i64 _)).toNat < 32 - (intOf (F 5)).toNat
          rw [H5.out]
          simp [intOf]; omega
  · obtain rfl : i = 32 := by omega
    go_wp2_with fail
    go_ret
    refine ⟨?_, HE.out⟩
    have h := HT.out
    rw [List.take_of_length_le (by simp), List.take_of_length_le (by simp)] at h
    have hab : a = b := Vector.toList_inj.1 h
    rw [show cmpD a b = 0 by unfold cmpD; rw [hab, less_irrefl]; simp]
    rfl
theorem u8_or_xor (u x y : UInt8) : (u ||| (x ^^^ y)) = 0 ↔ u = 0 ∧ x = y := by
  rw [← UInt8.toBitVec_inj, ← UInt8.toBitVec_inj, ← UInt8.toBitVec_inj]
  simp only [UInt8.toBitVec_or, UInt8.toBitVec_xor, UInt8.toBitVec_zero]
  generalize u.toBitVec = u
  generalize x.toBitVec = x
  generalize y.toBitVec = y
  constructor
  · intro h
    have hu : u = 0#8 := by
      apply BitVec.eq_of_getLsbD_eq
      intro i hi
      have := congrArg (fun z : BitVec 8 => z.getLsbD i) h
      simp at this
      simp [this.1]
    refine ⟨hu, ?_⟩
    apply BitVec.eq_of_getLsbD_eq
    intro i hi
    have := congrArg (fun z : BitVec 8 => z.getLsbD i) h
    simp at this
    exact this.2
  · rintro ⟨rfl, rfl⟩
    simp
def eqI (w : World) (a b : Vector UInt8 32) (f : Nat → Value) (W : World) : Prop :=
  f 2 = .pointer (some ⟨w.heap.size, 0, none⟩) ∧ f 3 = .pointer (some ⟨w.heap.size + 1, 0, none⟩) ∧ ∃ (i : Nat) (u : UInt8), i ≤ 32 ∧ f 6 = .int .i64 (i : Nat) ∧ f 5 = .int .u8 (w8 u) ∧ Hid (u = 0 ↔ a.toList.take i = b.toList.take i) ∧
    blk W w.heap.size = some (arr u8v a) ∧ blk W (w.heap.size + 1) = some (arr u8v b) ∧ Hid (Ext w W)
theorem take_iff (xs ys : List UInt8) (i : Nat) (hx : i < xs.length) (hy : i < ys.length) : xs.take (i + 1) = ys.take (i + 1) ↔ xs.take i = ys.take i ∧ xs.getD i 0 = ys.getD i 0 := by
  constructor
  · intro h
    refine ⟨?_, ?_⟩
    · have := congrArg (List.take i) h
      rwa [List.take_take, List.take_take, Nat.min_eq_left (by omega)] at this
    · have := congrArg (fun l => l.getD i 0) h
      simpa [hx, hy, List.getElem?_take] using this
  · rintro ⟨h1, h2⟩
    exact take_next xs ys i h1 hx hy h2
set_option maxRecDepth 20000 in
set_option maxHeartbeats 2000000 in
theorem equal_any (w : World) (a b : Vector UInt8 32) :
    Calls Try.prog 34 #[.agg (arr u8v a).toArray, .agg (arr u8v b).toArray] w fun e w' => e = .returned (.bool (decide (a = b))) ∧ Ext w w' := by
  go_enter Try.func34, Try.ntmps34
  go_wp2_with fail
  refine wp_loop_f 22 (eqI w a b) (fun f _ => 32 - (intOf (f 6)).toNat) rfl ?_ ?_
  · refine ⟨rfl, rfl, 0, 0, by omega, rfl, rfl, ⟨fun _ => rfl, fun _ => rfl⟩, ?_, ?_, ((Ext.refl w).alloc _).alloc _⟩
    · rw [blk_alloc, if_neg (by rw [World.size_alloc]; omega), blk_alloc, if_pos rfl]
    · rw [blk_alloc, if_pos (by rw [World.size_alloc])]
  intro F W hrel
  obtain ⟨h2, h3, i, u, hi, h6, h5, HT, hb, hc, HE⟩ := hrel
  have H6 : Hid (F 6 = .int .i64 (i : Nat)) := h6
  rw [frame22, h2, h3, h5, h6]
  clear h2 h3 h5 h6
  by_cases hil : i < 32
  · have q0 : (0 : Int) ≤ (i : Int) := by omega
    have q1 : (i : Int) < 32 := by omega
    have q2 : ((i : Int)).toNat = i := by omega
    go_wp2_with fail
    go_quiet (fail)
    go_wp2_with fail
    refine ⟨rfl, rfl, ?_, ?_⟩
    · refine ⟨rfl, rfl, i + 1, u ||| (a[i] ^^^ b[i]), by omega, ?_, rfl, ?_, hb, hc, HE.out.drewN _⟩
      · show Value.int .i64 _ = _
        go_num
      · show _ ↔ _
        rw [u8_or_xor, take_iff _ _ i (by simp; exact hil) (by simp; exact hil), HT.out, getD_vec a i hil, getD_vec b i hil]
    · show 32 - (intOf (Value.int .i64 _)).toNat < 32 - (intOf (F 6)).toNat
      rw [H6.out]
      simp [intOf]; omega
  · obtain rfl : i = 32 := by omega
    have hz : (w8 u = 0) ↔ a = b := by
      have h := HT.out
      rw [List.take_of_length_le (by simp), List.take_of_length_le (by simp), Vector.toList_inj] at h
      rw [← h]
      unfold w8
      constructor
      · intro q; exact UInt8.toNat_inj.1 (by simpa using q)
      · rintro rfl; rfl
    obtain ⟨r, hr⟩ : ∃ r : Bool, r = decide (a = b) := ⟨_, rfl⟩
    have hz2 : decide (w8 u = 0) = r := by rw [hr]; exact decide_eq_decide.2 hz
    have HR : Hid (r = decide (a = b)) := hr
    clear hz hr
    go_wp2_with fail
    go_ret
    exact ⟨by rw [← HR.out]; first | rfl | (rw [← hz2]; rfl), HE.out⟩
theorem isZero_any (w : World) (d : Vector UInt8 32) :
    Calls Try.prog 35 #[.agg (arr u8v d).toArray] w fun e w' => e = .returned (.bool (decide (d = Vector.replicate 32 0))) ∧ Ext w w' := by
  go_enter Try.func35, Try.ntmps35
  go_wp2_with fail
  refine (equal_any _ d (Vector.replicate 32 0)).mono ?_
  rintro e w2 ⟨rfl, he⟩
  have HE : Hid (Ext w w2) := ((Ext.refl w).alloc _).trans he
  clear he
  go_wp2_with fail
  go_ret
  exact ⟨rfl, HE.out⟩
theorem ba_toList (s : List UInt8) : (⟨s.toArray⟩ : ByteArray).toList = s := by rw [ByteArray.toList_eq]
attribute [local go_sem] ba_toList
theorem conv40 {av : Nat} {w : World} {a : Option Addr} {len cap : Nat} {xs : List UInt8} (h : BytesAt av w a len cap xs) (hl : len ≠ 0) :
    (convOp 40 9 (.slice a len cap)).run Try.prog w = .ok (.value (.string ⟨xs.toArray⟩)) w := by
  obtain ⟨h1, h2, h3, h4⟩ := h
  obtain ⟨b, o, C, rfl, h5, h6, h7, h8⟩ := h4 hl
  have hc := run_convert_bytes_arg (P := Try.prog) w 40 5 Try.underlying40 Try.underlying5 b o len cap (xs.map fun x => (x.toNat : Int)) (by simp [h1]) (by
    intro i hi
    rw [cell_blk h6]
    have := congrArg (fun l => l[i]?) h8
    simp only [seg, List.getElem?_take, hi, if_true, List.getElem?_drop] at this
    rw [this]
    simp [bv, u8v, w8, List.getElem?_map, h1, hi]) 9 Try.underlying9
  unfold convOp
  rw [Sem.run_bind, hc]
  simp [strOfNums, Function.comp_def]
theorem hexOf_inj {a b : Vector UInt8 32} (h : hexOf a = hexOf b) : a = b := by
  have := parse_hex a
  rw [h, parse_hex b] at this
  exact (Option.some.inj this).symm
set_option maxRecDepth 100000 in
theorem frame95 (f : Nat → Value) : frameN 95 f = #[f 0, f 1, f 2, f 3, f 4, f 5, f 6, f 7, f 8, f 9, f 10, f 11, f 12, f 13, f 14, f 15, f 16, f 17, f 18, f 19, f 20, f 21, f 22, f 23, f 24, f 25, f 26, f 27, f 28, f 29, f 30, f 31, f 32, f 33, f 34, f 35, f 36, f 37, f 38, f 39, f 40, f 41, f 42, f 43, f 44, f 45, f 46, f 47, f 48, f 49, f 50, f 51, f 52, f 53, f 54, f 55, f 56, f 57, f 58, f 59, f 60, f 61, f 62, f 63, f 64, f 65, f 66, f 67, f 68, f 69, f 70, f 71, f 72, f 73, f 74, f 75, f 76, f 77, f 78, f 79, f 80, f 81, f 82, f 83, f 84, f 85, f 86, f 87, f 88, f 89, f 90, f 91, f 92, f 93, f 94] := by kernel_rfl
def hrI (w : World) (a : Option Addr) (len cap bp : Nat) (f : Nat → Value) (W : World) : Prop :=
  f 0 = .slice a len cap ∧ f 14 = .slice a len cap ∧ f 15 = .int .i64 (len : Nat) ∧ f 3 = .pointer (some ⟨bp, 0, none⟩) ∧ ∃ (i : Nat) (p : Player) (mh ma : List UInt8) (ns : List Noted), i ≤ len ∧ f 16 = .int .i64 (i : Nat) ∧
    ns.length ≤ i ∧ mh.length ≤ cap16 i ∧ ma.length ≤ cap16 i ∧ Hid (PlayAt w bp p mh ma ns W)
set_option maxRecDepth 20000 in
set_option maxHeartbeats 2000000 in
theorem hex_walk (w : World) (a : Option Addr) (len cap : Nat) (g : Nat → GOp) (dt : Nat → List UInt8) (hS : ScriptAt w a len cap g dt) :
    Calls Try.prog 8 #[.slice a len cap] w fun e w' => e = .returned (.bool true) ∧ w.Extends w' := by
  have HS : Hid (ScriptAt w a len cap g dt) := hS
  clear hS
  go_enter Try.func8, Try.ntmps8
  go_wp2_with fail
  refine (small_any w a len cap g dt HS.out).mono ?_
  rintro e w1 ⟨⟨r, rfl, hr⟩, hw1⟩
  subst hw1
  cases r with
  | false =>
    go_wp2_with fail
    go_ret
    exact ⟨rfl, ext_Ext (Ext.refl _)⟩
  | true =>
    obtain ⟨hl, hsm⟩ := hr rfl
    have HSM : Hid (∀ i, i < len → (g i).data.len ≤ 65536) := hsm
    clear hr hsm
    go_wp2_with fail
    refine (newPlayer_any w1).mono ?_
    rintro e w2 ⟨⟨p0, rfl, hr1, hr2, _, _, hlg⟩, hE2⟩
    have HPL : Hid (PlayAt w1 w2.heap.size p0 [] [] [] (w2.alloc (.cells p0.enc.toArray 38))) := PlayAt.new hE2 hr1 hr2 hlg
    clear hr1 hr2 hE2 hlg
    go_wp2_with fail
    refine wp_loop_f 95 (hrI w1 a len cap w2.heap.size) (fun f _ => len - (intOf (f 16)).toNat) rfl ?_ ?_
    · exact ⟨rfl, rfl, rfl, rfl, 0, p0, [], [], [], by omega, rfl, by simp, by simp, by simp, HPL⟩
    obtain ⟨w, hw⟩ : ∃ w, w = w1 := ⟨_, rfl⟩
    rw [← hw] at HS ⊢
    obtain ⟨bp, hbp⟩ : ∃ bp, bp = w2.heap.size := ⟨_, rfl⟩
    rw [← hbp]
    clear HPL hbp
    intro F W hrel
    obtain ⟨h0, hr, hln, h3, i, p, mh, ma, ns, hi, hiv, hnsi, hlh, hls, HP0⟩ := hrel
    have HIV : Hid (F 16 = .int .i64 (i : Nat)) := hiv
    rw [frame95, h0, hr, hln, h3, hiv]
    clear h0 hr hln h3 hiv
    have hcap := cap16_succ i
    have hcapl := cap16_le (i + 1) (by omega)
    by_cases hil : i < len
    · have hSW := HS.out.mono HP0.out.ext
      obtain ⟨b, o, C, rfl, hC, hlen, hseg⟩ := hSW.2.2.2 (by omega)
      have hsx := hseg i hil
      have HXw := HS.out.bytes hil (HSM.out i hil)
      obtain ⟨op, hop⟩ : ∃ op, op = g i := ⟨_, rfl⟩
      rw [← hop] at hsx HXw
      have HX0 : Hid (BytesAt w.heap.size w op.data.a op.data.len op.data.cap (dt i)) := HXw
      have HDL : Hid (op.data.len ≤ 65536) := by show _ ≤ _; rw [hop]; exact HSM.out i hil
      clear hSW hseg hop HXw
      have q0 : (0 : Int) ≤ (i : Int) := by omega
      have q1 : (i : Int) < (len : Int) := by omega
      have q2 : ((i : Int)).toNat = i := by omega
      have q3 : o + i * 39 + 39 ≤ C.length := by omega
      go_upto_region 7 with fail
      refine wp_world (fun W1 => blk W1 W.heap.size = some op.enc ∧ W.heap.size < W1.heap.size ∧ Hid (PlayAt w bp p mh ma ns W1) ∧ Hid (TyAt W1 W.heap.size 44)) ⟨?_, ?_, HP0.out.grow (extends_alloc (ext_Ext (Ext.refl _)) _), ?_⟩ ?_
      · rw [blk_alloc, if_pos rfl]
      · rw [World.size_alloc]; omega
      · show TyAt _ _ _
        unfold TyAt
        rw [heap_alloc, if_pos rfl]
        exact ⟨_, _, rfl⟩
      have HBPW : Hid (bp < W.heap.size) := HP0.out.lt
      clear hC HP0 hsx
      rintro W1 ⟨hbo, hbol, HP1, HTY⟩
      obtain ⟨bo, hboe⟩ : ∃ bo, bo = W.heap.size := ⟨_, rfl⟩
      rw [← hboe] at hbo hbol HBPW HTY ⊢
      clear hboe
      go_wp2_with fail
      refine (step_any w W1 bp p op mh ma ns (dt i) HP1.out HX0.out HDL.out (by omega) (by omega)).mono ?_
      rintro e W2 ⟨ans, p', mh', ma', ns', rfl, hP2, hns2, hgr, hans, hbs⟩
      have HBO2 : Hid (blk W2 bo = some op.enc) := (blk_of_heap (hbs bo hbol (by have := HBPW.out; omega) (HTY.out.not_log (by decide)))).trans hbo
      have hbol2 : bo < W2.heap.size := blk_lt HBO2.out
      have HP2 : Hid (PlayAt w bp p' mh' ma' ns' W2) := hP2
      have hb2 := hP2.blk
      have hns3 : ns'.length ≤ i + 1 := by omega
      have hg1 : mh'.length ≤ cap16 (i + 1) := by have := (hgr (cap16 i) hlh hls).1; omega
      have hg2 : ma'.length ≤ cap16 (i + 1) := by have := (hgr (cap16 i) hlh hls).2; omega
      have HANS : Hid (op.kind = 13 → ans.code = 0 → parseH (dt i) = some ans.sum) := hans
      clear hP2 hgr hans HP1 hbs HTY
      have hlt2 := HP2.out.lt
      have hbpo := HBPW.out
      obtain ⟨ba, hba⟩ : ∃ ba, ba = W2.heap.size := ⟨_, rfl⟩
      have nb0 : ¬ bp = bo := by omega
      have nb1 : ¬ bp = ba := by omega
      have nb2 : ¬ bo = ba := by omega
      have nc1 : ¬ bp = W2.heap.size := by omega
      have nc2 : ¬ bo = W2.heap.size := by omega
      clear hbo hbol HBPW
      have HBA : Hid (ba = W2.heap.size) := hba
      clear hba
      go_upto_region 8 with fail
      rw [← HBA.out]
      refine wp_world (fun W3 => blk W3 bp = some p'.enc ∧ blk W3 bo = some op.enc ∧ blk W3 ba = some ans.enc ∧ ba < W3.heap.size ∧ Hid (PlayAt w bp p' mh' ma' ns' W3)) ⟨?_, ?_, ?_, ?_, HP2.out.grow (extends_alloc (ext_Ext (Ext.refl _)) _)⟩ ?_
      · rw [blk_alloc, if_neg nc1]; exact hb2
      · rw [blk_alloc, if_neg nc2]; exact HBO2.out
      · rw [HBA.out, blk_alloc, if_pos rfl]
      · rw [HBA.out, World.size_alloc]; omega
      clear hb2 HBO2 HP2 nc1 nc2 HBA hbol2 hlt2
      rintro W3 ⟨hb3, ho3, ha3, hs3, HP3⟩
      have hl3 := HP3.out.lt
      have hlo3 := blk_lt ho3
      go_wp2_with fail
      refine (hex_any W3 p'.last).mono ?_
      rintro e W4 ⟨rfl, he4⟩
      obtain ⟨hs, hhs⟩ : ∃ hs, hs = hexOf p'.last := ⟨_, rfl⟩
      rw [← hhs]
      have HHS : Hid (hs = hexOf p'.last) := hhs
      have HHL : Hid (hs.length = 64) := by show _ = _; rw [hhs, length_hexOf]
      have HE4 : Hid (W3.Extends (convW W4 hs)) := (ext_Ext he4).trans (ext_Ext (convW_ext W4 hs))
      have HPX : Hid (BytesAt ((convW W4 hs).heap.size) (convW W4 hs) (some ⟨W4.heap.size, 0, none⟩) hs.length (convC W4 hs) hs) := convW_bytes W4 hs _ (by rw [convW_size]; omega) (by have := HHL.out; omega)
      clear hhs he4
      go_wp2_with fail
      refine (parseHex_any (convW W4 hs) _ (some ⟨W4.heap.size, 0, none⟩) hs.length (convC W4 hs) hs HPX.out).mono ?_
      rintro e W5 ⟨rfl, he5⟩
      have hpv : parseV hs = .tuple #[.agg (arr u8v p'.last).toArray, .int .i64 0] := by unfold parseV; rw [HHS.out, parse_hex]; rfl
      rw [hpv]
      have HX5 : Hid (W3.Extends W5) := HE4.out.trans (ext_Ext he5)
      have HP5 : Hid (PlayAt w bp p' mh' ma' ns' W5) := HP3.out.grow HX5.out
      have hb5 := HP5.out.blk
      have ho5 := (HX5.out.blk hlo3).trans ho3
      have ha5 := (HX5.out.blk hs3).trans ha3
      have hl5 := HP5.out.lt
      have hlo5 := blk_lt ho5
      have hla5 := blk_lt ha5
      have nd1 : ¬ bp = W5.heap.size := by omega
      have nd2 : ¬ bo = W5.heap.size := by omega
      have nd3 : ¬ ba = W5.heap.size := by omega
      clear hpv hb3 ho3 ha3 HP3 HE4 HPX he5 HHL HX5 hl3 hlo3 hs3
      go_upto_region 11 with fail
      refine wp_world (fun W6 => blk W6 bp = some p'.enc ∧ blk W6 bo = some op.enc ∧ blk W6 ba = some ans.enc ∧ Hid (PlayAt w bp p' mh' ma' ns' W6)) ⟨?_, ?_, ?_, HP5.out.grow (extends_alloc (ext_Ext (Ext.refl _)) _)⟩ ?_
      · rw [blk_alloc, if_neg nd1]; exact hb5
      · rw [blk_alloc, if_neg nd2]; exact ho5
      · rw [blk_alloc, if_neg nd3]; exact ha5
      obtain ⟨bk, hbk⟩ : ∃ bk, bk = W5.heap.size := ⟨_, rfl⟩
      rw [← hbk]
      clear hbk hb5 ho5 ha5 HP5 nd1 nd2 nd3 hl5 hlo5 hla5
      rintro W6 ⟨hb6, ho6, ha6, HP6⟩
      by_cases hk : op.kind = 13
      · by_cases hc : ans.code = 0
        · have HPA := HANS.out hk hc
          have HHX : Hid (hexOf ans.sum = dt i) := hex_parse HPA
          have HXC : Hid (BytesAt W6.heap.size W6 op.data.a op.data.len op.data.cap (dt i)) := HX0.out.at_new (fun k hk => HP6.out.ext.blk hk) HP6.out.ext.size
          have HL0 : Hid (op.data.len ≠ 0) := by
            show _ ≠ _
            have h1 := HX0.out.1
            have h2 : (dt i).length = 64 := by rw [← HHX.out, length_hexOf]
            omega
          have hsv : Sl.val op.data = .slice op.data.a op.data.len op.data.cap := rfl
          clear HPA
          refine wp_region_held_drew (S := fun W' => (blk W' bo = some op.enc ∧ blk W' ba = some ans.enc ∧ (convOp 40 9 (.slice op.data.a op.data.len op.data.cap)).run Try.prog W' = .ok (.value (.string ⟨(dt i).toArray⟩)) W') ∧ True) (by kernel_rfl) ⟨⟨ho6, ha6, conv40 HXC.out HL0.out⟩, trivial⟩ (fun hHeld => ?_)
          refine wpAnyH_take (i := 0) (oi := ⟨_, _, _, _, _, _⟩) (v := ?_) rfl (by kernel_rfl) (by kernel_rfl) (by kernel_rfl) (fun _ _ _ h => h) (Or.inl ⟨by rfl, ?_⟩) (by assumption) ?_
          rotate_left 1
          · intro W' hSw
            obtain ⟨⟨hS1, hS3, hS4⟩, hS2⟩ := hSw
            go_simp
            try with_reducible rfl
          try simp only [Act.put, List.setIfInBounds_toArray, List.set_cons_zero, List.set_cons_succ]
          refine wpAnyH_take (i := 1) (oi := ⟨_, _, _, _, _, _⟩) (v := ?_) rfl (by kernel_rfl) (by kernel_rfl) (by kernel_rfl) (fun _ _ _ h => h) (Or.inl ⟨by rfl, ?_⟩) (by assumption) ?_
          rotate_left 1
          · intro W' hSw
            obtain ⟨⟨hS1, hS3, hS4⟩, hS2⟩ := hSw
            go_simp
            try with_reducible rfl
          try simp only [Act.put, List.setIfInBounds_toArray, List.set_cons_zero, List.set_cons_succ]
          refine wpAnyH_take (i := 2) (oi := ⟨_, _, _, _, _, _⟩) (v := ?_) rfl (by kernel_rfl) (by kernel_rfl) (by kernel_rfl) (fun _ _ _ h => h) (Or.inl ⟨by rfl, ?_⟩) (by assumption) ?_
          rotate_left 1
          · intro W' hSw
            obtain ⟨⟨hS1, hS3, hS4⟩, hS2⟩ := hSw
            go_simp
            try with_reducible rfl
          try simp only [Act.put, List.setIfInBounds_toArray, List.set_cons_zero, List.set_cons_succ]
          refine wpAnyH_take (i := 3) (oi := ⟨_, _, _, _, _, _⟩) (v := ?_) rfl (by kernel_rfl) (by kernel_rfl) (by kernel_rfl) (fun _ _ _ h => h) (Or.inl ⟨by rfl, ?_⟩) (by assumption) ?_
          rotate_left 1
          · intro W' hSw
            obtain ⟨⟨hS1, hS3, hS4⟩, hS2⟩ := hSw
            go_simp
            try with_reducible rfl
          try simp only [Act.put, List.setIfInBounds_toArray, List.set_cons_zero, List.set_cons_succ]
          refine wpAnyH_take (i := 4) (oi := ⟨_, _, _, _, _, _⟩) (v := ?_) rfl (by kernel_rfl) (by kernel_rfl) (by kernel_rfl) (fun _ _ _ h => h) (Or.inl ⟨by rfl, ?_⟩) (by assumption) ?_
          rotate_left 1
          · intro W' hSw
            obtain ⟨⟨hS1, hS3, hS4⟩, hS2⟩ := hSw
            go_simp
            try with_reducible rfl
          try simp only [Act.put, List.setIfInBounds_toArray, List.set_cons_zero, List.set_cons_succ]
          refine wpAnyH_take (i := 5) (oi := ⟨_, _, _, _, _, _⟩) (v := ?_) rfl (by kernel_rfl) (by kernel_rfl) (by kernel_rfl) (fun _ _ _ h => h) (Or.inl ⟨by rfl, ?_⟩) (by assumption) ?_
          rotate_left 1
          · intro W' hSw
            obtain ⟨⟨hS1, hS3, hS4⟩, hS2⟩ := hSw
            go_simp
            try with_reducible rfl
          try simp only [Act.put, List.setIfInBounds_toArray, List.set_cons_zero, List.set_cons_succ]
          refine wpAnyH_take (i := 6) (oi := ⟨_, _, _, _, _, _⟩) (v := ?_) rfl (by kernel_rfl) (by kernel_rfl) (by kernel_rfl) (fun _ _ _ h => h) (Or.inl ⟨by rfl, ?_⟩) (by assumption) ?_
          rotate_left 1
          · intro W' hSw
            obtain ⟨⟨hS1, hS3, hS4⟩, hS2⟩ := hSw
            go_simp
            try with_reducible rfl
          try simp only [Act.put, List.setIfInBounds_toArray, List.set_cons_zero, List.set_cons_succ]
          refine wpAnyH_take (i := 7) (oi := ⟨_, _, _, _, _, _⟩) (v := ?_) rfl (by kernel_rfl) (by kernel_rfl) (by kernel_rfl) (fun _ _ _ h => h) (Or.inl ⟨by rfl, ?_⟩) (by assumption) ?_
          rotate_left 1
          · intro W' hSw
            obtain ⟨⟨hS1, hS3, hS4⟩, hS2⟩ := hSw
            go_simp
            try with_reducible rfl
          try simp only [Act.put, List.setIfInBounds_toArray, List.set_cons_zero, List.set_cons_succ]
          refine wpAnyH_take (i := 8) (oi := ⟨_, _, _, _, _, _⟩) (v := ?_) rfl (by kernel_rfl) (by kernel_rfl) (by kernel_rfl) (fun _ _ _ h => h) (Or.inl ⟨by rfl, ?_⟩) (by assumption) ?_
          rotate_left 1
          · intro W' hSw
            obtain ⟨⟨hS1, hS3, hS4⟩, hS2⟩ := hSw
            go_simp
            try with_reducible rfl
          try simp only [Act.put, List.setIfInBounds_toArray, List.set_cons_zero, List.set_cons_succ]
          refine wpAnyH_take (i := 9) (oi := ⟨_, _, _, _, _, _⟩) (v := ?_) rfl (by kernel_rfl) (by kernel_rfl) (by kernel_rfl) (fun _ _ _ h => h) (Or.inl ⟨by rfl, ?_⟩) (by assumption) ?_
          rotate_left 1
          · intro W' hSw
            obtain ⟨⟨hS1, hS3, hS4⟩, hS2⟩ := hSw
            go_simp
            try with_reducible rfl
          try simp only [Act.put, List.setIfInBounds_toArray, List.set_cons_zero, List.set_cons_succ]
          refine wpAnyH_take (i := 10) (oi := ⟨_, _, _, _, _, _⟩) (v := ?_) rfl (by kernel_rfl) (by kernel_rfl) (by kernel_rfl) (fun _ _ _ h => h) (Or.inl ⟨by rfl, ?_⟩) (by assumption) ?_
          rotate_left 1
          · intro W' hSw
            obtain ⟨⟨hS1, hS3, hS4⟩, hS2⟩ := hSw
            go_simp
            try with_reducible rfl
          try simp only [Act.put, List.setIfInBounds_toArray, List.set_cons_zero, List.set_cons_succ]
          refine wpAnyH_take (i := 12) (oi := ⟨_, _, _, _, _, _⟩) (v := ?_) rfl (by kernel_rfl) (by kernel_rfl) (by kernel_rfl) (fun _ _ _ h => h) (Or.inl ⟨by rfl, ?_⟩) (by assumption) ?_
          rotate_left 1
          · intro W' hSw
            obtain ⟨⟨hS1, hS3, hS4⟩, hS2⟩ := hSw
            go_simp
            try with_reducible rfl
          try simp only [Act.put, List.setIfInBounds_toArray, List.set_cons_zero, List.set_cons_succ]
          refine wpAnyH_take (i := 13) (oi := ⟨_, _, _, _, _, _⟩) (v := ?_) rfl (by kernel_rfl) (by kernel_rfl) (by kernel_rfl) (fun _ _ _ h => h) (Or.inl ⟨by rfl, ?_⟩) (by assumption) ?_
          rotate_left 1
          · intro W' hSw
            obtain ⟨⟨hS1, hS3, hS4⟩, hS2⟩ := hSw
            go_simp
            try with_reducible rfl
          try simp only [Act.put, List.setIfInBounds_toArray, List.set_cons_zero, List.set_cons_succ]
          refine wpAnyH_take (i := 14) (oi := ⟨_, _, _, _, _, _⟩) (v := ?_) rfl (by kernel_rfl) (by kernel_rfl) (by kernel_rfl) (fun _ _ _ h => h) (Or.inl ⟨by rfl, ?_⟩) (by assumption) ?_
          rotate_left 1
          · intro W' hSw
            obtain ⟨⟨hS1, hS3, hS4⟩, hS2⟩ := hSw
            go_simp
            try with_reducible rfl
          try simp only [Act.put, List.setIfInBounds_toArray, List.set_cons_zero, List.set_cons_succ]
          refine wpAnyH_ready (rs := [11]) (by kernel_rfl) (by simp) ?_
          refine AllReadyH.cons (o := ⟨_, _, _, _, _, _⟩) rfl (fun K hK => ?_) AllReadyH.nil
          go_simp
          refine (hex_any W6.drew ans.sum).mono ?_
          rintro e W8 ⟨rfl, he⟩
          rw [HHX.out]
          have hxx : W6.Extends W8 := (extends_drew (ext_Ext (Ext.refl _))).trans (ext_Ext he)
          have HP8 : Hid (PlayAt w bp p' mh' ma' ns' W8) := HP6.out.grow hxx
          have hb8 := HP8.out.blk
          have ho8 := (hxx.blk (blk_lt ho6)).trans ho6
          have ha8 := (hxx.blk (blk_lt ha6)).trans ha6
          have HX8 : Hid (BytesAt W8.heap.size W8 op.data.a op.data.len op.data.cap (dt i)) := HXC.out.at_new (fun k hk => hxx.blk hk) hxx.size
          dsimp only
          refine hK.out _ _ ?_ (fun hHeld => ?_)
          · exact ⟨⟨ho8, ha8, conv40 HX8.out HL0.out⟩, trivial⟩
          clear hK K
          clear he hxx
          try simp only [Act.put, List.setIfInBounds_toArray, List.set_cons_zero, List.set_cons_succ]
          refine wpAnyH_take (i := 15) (oi := ⟨_, _, _, _, _, _⟩) (v := ?_) rfl (by kernel_rfl) (by kernel_rfl) (by kernel_rfl) (fun _ _ _ h => h) (Or.inl ⟨by rfl, ?_⟩) (by assumption) ?_
          rotate_left 1
          · intro W' hSw
            obtain ⟨⟨hS1, hS3, hS4⟩, hS2⟩ := hSw
            go_simp
            try with_reducible rfl
          try simp only [Act.put, List.setIfInBounds_toArray, List.set_cons_zero, List.set_cons_succ]
          refine wpAnyH_take (i := 16) (oi := ⟨_, _, _, _, _, _⟩) (v := ?_) rfl (by kernel_rfl) (by kernel_rfl) (by kernel_rfl) (fun _ _ _ h => h) (Or.inl ⟨by rfl, ?_⟩) (by assumption) ?_
          rotate_left 1
          · intro W' hSw
            obtain ⟨⟨hS1, hS3, hS4⟩, hS2⟩ := hSw
            go_simp
            try with_reducible rfl
          try simp only [Act.put, List.setIfInBounds_toArray, List.set_cons_zero, List.set_cons_succ]
          refine wpAnyH_done (by kernel_rfl) ?_ _
          go_upto_region 14 with fail
          refine wp_world (fun W7 => blk W7 bp = some p'.enc ∧ Hid (PlayAt w bp p' mh' ma' ns' W7)) ?_ ?_
          · exact ⟨hb8, HP8⟩
          clear hb6 ho6 ha6 HP6 hk hc ho8 ha8 hb8 HP8 HX8
          rintro W7 ⟨hbx, HPx⟩
          obtain ⟨s1, hs1⟩ : ∃ s1, s1 = hexOf p'.prev := ⟨_, rfl⟩
          obtain ⟨s2, hs2⟩ : ∃ s2, s2 = hexOf p'.last := ⟨_, rfl⟩
          have hq : Op.bytesLess s1 s2 = Op.bytesLess p'.prev.toList p'.last.toList := by rw [hs1, hs2, hexOf_less]
          have hq2 : s1 = s2 ↔ p'.prev = p'.last := by rw [hs1, hs2]; exact ⟨hexOf_inj, fun h => by rw [h]⟩
          have HS1 : Hid (s1 = hexOf p'.prev) := hs1
          have HS2 : Hid (s2 = hexOf p'.last) := hs2
          clear hs1 hs2
          by_cases hl : Op.bytesLess p'.prev.toList p'.last.toList = true
          · have hcmp : cmpD p'.prev p'.last = -1 := by unfold cmpD; rw [if_pos hl]
            have hne : ¬ p'.prev = p'.last := fun e => by rw [e, less_irrefl] at hl; exact absurd hl (by decide)
            have hdec : decide (p'.prev = p'.last) = false := decide_eq_false hne
            have hsl : Op.bytesLess s1 s2 = true := hq.trans hl
            have hsq : (s1 == s2) = false := by rw [beq_eq_false_iff_ne]; exact fun e => hne (hq2.1 e)
            clear hq hq2 hl hne
            go_wp2_with fail
            refine wp_region_held_drew (S := fun W' => blk W' bp = some p'.enc ∧ True) (by kernel_rfl) ⟨hbx, trivial⟩ (fun hHeld => ?_)
            have HPx : Hid (PlayAt w bp p' mh' ma' ns' W7.drew) := HPx.out.grow (extends_drew (ext_Ext (Ext.refl _)))
            refine wpAnyH_take (i := 0) (oi := ⟨_, _, _, _, _, _⟩) (v := ?_) rfl (by kernel_rfl) (by kernel_rfl) (by kernel_rfl) (fun _ _ _ h => h) (Or.inl ⟨by rfl, ?_⟩) (by assumption) ?_
            rotate_left 1
            · intro W' hSw
              obtain ⟨hS1, hS2⟩ := hSw
              go_simp
              try with_reducible rfl
            try simp only [Act.put, List.setIfInBounds_toArray, List.set_cons_zero, List.set_cons_succ]
            refine wpAnyH_take (i := 1) (oi := ⟨_, _, _, _, _, _⟩) (v := ?_) rfl (by kernel_rfl) (by kernel_rfl) (by kernel_rfl) (fun _ _ _ h => h) (Or.inl ⟨by rfl, ?_⟩) (by assumption) ?_
            rotate_left 1
            · intro W' hSw
              obtain ⟨hS1, hS2⟩ := hSw
              go_simp
              try with_reducible rfl
            try simp only [Act.put, List.setIfInBounds_toArray, List.set_cons_zero, List.set_cons_succ]
            refine wpAnyH_take (i := 3) (oi := ⟨_, _, _, _, _, _⟩) (v := ?_) rfl (by kernel_rfl) (by kernel_rfl) (by kernel_rfl) (fun _ _ _ h => h) (Or.inl ⟨by rfl, ?_⟩) (by assumption) ?_
            rotate_left 1
            · intro W' hSw
              obtain ⟨hS1, hS2⟩ := hSw
              go_simp
              try with_reducible rfl
            try simp only [Act.put, List.setIfInBounds_toArray, List.set_cons_zero, List.set_cons_succ]
            refine wpAnyH_take (i := 4) (oi := ⟨_, _, _, _, _, _⟩) (v := ?_) rfl (by kernel_rfl) (by kernel_rfl) (by kernel_rfl) (fun _ _ _ h => h) (Or.inl ⟨by rfl, ?_⟩) (by assumption) ?_
            rotate_left 1
            · intro W' hSw
              obtain ⟨hS1, hS2⟩ := hSw
              go_simp
              try with_reducible rfl
            try simp only [Act.put, List.setIfInBounds_toArray, List.set_cons_zero, List.set_cons_succ]
            refine wpAnyH_ready (rs := [2]) (by kernel_rfl) (by simp) ?_
            refine AllReadyH.cons (o := ⟨_, _, _, _, _, _⟩) rfl (fun K hK => ?_) AllReadyH.nil
            go_simp
            refine (hex_any W7.drew p'.prev).mono ?_
            rintro e V1 ⟨rfl, he⟩
            rw [← HS1.out]
            have hxx : W7.drew.Extends V1 := ext_Ext he
            have HPy : Hid (PlayAt w bp p' mh' ma' ns' V1) := HPx.out.grow hxx
            have hby := HPy.out.blk
            dsimp only
            refine hK.out _ _ ?_ (fun hHeld => ?_)
            · exact ⟨hby, trivial⟩
            clear hK K
            clear he hxx HPx hbx
            have HPx := HPy
            have hbx := hby
            clear HPy hby
            try simp only [Act.put, List.setIfInBounds_toArray, List.set_cons_zero, List.set_cons_succ]
            refine wpAnyH_ready (rs := [5]) (by kernel_rfl) (by simp) ?_
            refine AllReadyH.cons (o := ⟨_, _, _, _, _, _⟩) rfl (fun K hK => ?_) AllReadyH.nil
            go_simp
            refine (hex_any V1 p'.last).mono ?_
            rintro e V2 ⟨rfl, he⟩
            rw [← HS2.out]
            have hxx : V1.Extends V2 := ext_Ext he
            have HPy : Hid (PlayAt w bp p' mh' ma' ns' V2) := HPx.out.grow hxx
            have hby := HPy.out.blk
            dsimp only
            refine hK.out _ _ ?_ (fun hHeld => ?_)
            · exact ⟨hby, trivial⟩
            clear hK K
            clear he hxx HPx hbx
            have HPx := HPy
            have hbx := hby
            clear HPy hby
            try simp only [Act.put, List.setIfInBounds_toArray, List.set_cons_zero, List.set_cons_succ]
            refine wpAnyH_take (i := 6) (oi := ⟨_, _, _, _, _, _⟩) (v := ?_) rfl (by kernel_rfl) (by kernel_rfl) (by kernel_rfl) (fun _ _ _ h => h) (Or.inl ⟨by rfl, ?_⟩) (by assumption) ?_
            rotate_left 1
            · intro W' hSw
              obtain ⟨hS1, hS2⟩ := hSw
              go_simp
              try with_reducible rfl
            try simp only [Act.put, List.setIfInBounds_toArray, List.set_cons_zero, List.set_cons_succ]
            refine wpAnyH_done (by kernel_rfl) ?_ _
            go_wp2_with fail
            refine wp_region_held_drew (S := fun W' => blk W' bp = some p'.enc ∧ True) (by kernel_rfl) ⟨hbx, trivial⟩ (fun hHeld => ?_)
            have HPx : Hid (PlayAt w bp p' mh' ma' ns' V2.drew) := HPx.out.grow (extends_drew (ext_Ext (Ext.refl _)))
            refine wpAnyH_take (i := 0) (oi := ⟨_, _, _, _, _, _⟩) (v := ?_) rfl (by kernel_rfl) (by kernel_rfl) (by kernel_rfl) (fun _ _ _ h => h) (Or.inl ⟨by rfl, ?_⟩) (by assumption) ?_
            rotate_left 1
            · intro W' hSw
              obtain ⟨hS1, hS2⟩ := hSw
              go_simp
              try with_reducible rfl
            try simp only [Act.put, List.setIfInBounds_toArray, List.set_cons_zero, List.set_cons_succ]
            refine wpAnyH_take (i := 1) (oi := ⟨_, _, _, _, _, _⟩) (v := ?_) rfl (by kernel_rfl) (by kernel_rfl) (by kernel_rfl) (fun _ _ _ h => h) (Or.inl ⟨by rfl, ?_⟩) (by assumption) ?_
            rotate_left 1
            · intro W' hSw
              obtain ⟨hS1, hS2⟩ := hSw
              go_simp
              try with_reducible rfl
            try simp only [Act.put, List.setIfInBounds_toArray, List.set_cons_zero, List.set_cons_succ]
            refine wpAnyH_take (i := 3) (oi := ⟨_, _, _, _, _, _⟩) (v := ?_) rfl (by kernel_rfl) (by kernel_rfl) (by kernel_rfl) (fun _ _ _ h => h) (Or.inl ⟨by rfl, ?_⟩) (by assumption) ?_
            rotate_left 1
            · intro W' hSw
              obtain ⟨hS1, hS2⟩ := hSw
              go_simp
              try with_reducible rfl
            try simp only [Act.put, List.setIfInBounds_toArray, List.set_cons_zero, List.set_cons_succ]
            refine wpAnyH_take (i := 4) (oi := ⟨_, _, _, _, _, _⟩) (v := ?_) rfl (by kernel_rfl) (by kernel_rfl) (by kernel_rfl) (fun _ _ _ h => h) (Or.inl ⟨by rfl, ?_⟩) (by assumption) ?_
            rotate_left 1
            · intro W' hSw
              obtain ⟨hS1, hS2⟩ := hSw
              go_simp
              try with_reducible rfl
            try simp only [Act.put, List.setIfInBounds_toArray, List.set_cons_zero, List.set_cons_succ]
            refine wpAnyH_ready (rs := [2]) (by kernel_rfl) (by simp) ?_
            refine AllReadyH.cons (o := ⟨_, _, _, _, _, _⟩) rfl (fun K hK => ?_) AllReadyH.nil
            go_simp
            refine (hex_any V2.drew p'.prev).mono ?_
            rintro e V3 ⟨rfl, he⟩
            rw [← HS1.out]
            have hxx : V2.drew.Extends V3 := ext_Ext he
            have HPy : Hid (PlayAt w bp p' mh' ma' ns' V3) := HPx.out.grow hxx
            have hby := HPy.out.blk
            dsimp only
            refine hK.out _ _ ?_ (fun hHeld => ?_)
            · exact ⟨hby, trivial⟩
            clear hK K
            clear he hxx HPx hbx
            have HPx := HPy
            have hbx := hby
            clear HPy hby
            try simp only [Act.put, List.setIfInBounds_toArray, List.set_cons_zero, List.set_cons_succ]
            refine wpAnyH_ready (rs := [5]) (by kernel_rfl) (by simp) ?_
            refine AllReadyH.cons (o := ⟨_, _, _, _, _, _⟩) rfl (fun K hK => ?_) AllReadyH.nil
            go_simp
            refine (hex_any V3 p'.last).mono ?_
            rintro e V4 ⟨rfl, he⟩
            rw [← HS2.out]
            have hxx : V3.Extends V4 := ext_Ext he
            have HPy : Hid (PlayAt w bp p' mh' ma' ns' V4) := HPx.out.grow hxx
            have hby := HPy.out.blk
            dsimp only
            refine hK.out _ _ ?_ (fun hHeld => ?_)
            · exact ⟨hby, trivial⟩
            clear hK K
            clear he hxx HPx hbx
            have HPx := HPy
            have hbx := hby
            clear HPy hby
            try simp only [Act.put, List.setIfInBounds_toArray, List.set_cons_zero, List.set_cons_succ]
            refine wpAnyH_take (i := 6) (oi := ⟨_, _, _, _, _, _⟩) (v := ?_) rfl (by kernel_rfl) (by kernel_rfl) (by kernel_rfl) (fun _ _ _ h => h) (Or.inl ⟨by rfl, ?_⟩) (by assumption) ?_
            rotate_left 1
            · intro W' hSw
              obtain ⟨hS1, hS2⟩ := hSw
              go_simp
              try with_reducible rfl
            try simp only [Act.put, List.setIfInBounds_toArray, List.set_cons_zero, List.set_cons_succ]
            refine wpAnyH_done (by kernel_rfl) ?_ _
            go_wp2_with fail
            refine (compare_any V4 p'.prev p'.last).mono ?_
            rintro e V5 ⟨rfl, he⟩
            rw [hcmp]
            have HPy : Hid (PlayAt w bp p' mh' ma' ns' V5) := HPx.out.grow (ext_Ext he)
            have hby := HPy.out.blk
            clear HPx hbx he
            go_wp2_with fail
            refine (equal_any V5 p'.prev p'.last).mono ?_
            rintro e V6 ⟨rfl, he⟩
            rw [hdec]
            have HPx : Hid (PlayAt w bp p' mh' ma' ns' V6) := HPy.out.grow (ext_Ext he)
            have hbx := HPx.out.blk
            clear HPy hby he
            go_wp2_with fail
            refine wp_region_held_drew (S := fun W' => blk W' bp = some p'.enc ∧ True) (by kernel_rfl) ⟨hbx, trivial⟩ (fun hHeld => ?_)
            have HPx : Hid (PlayAt w bp p' mh' ma' ns' V6.drew) := HPx.out.grow (extends_drew (ext_Ext (Ext.refl _)))
            refine wpAnyH_take (i := 0) (oi := ⟨_, _, _, _, _, _⟩) (v := ?_) rfl (by kernel_rfl) (by kernel_rfl) (by kernel_rfl) (fun _ _ _ h => h) (Or.inl ⟨by rfl, ?_⟩) (by assumption) ?_
            rotate_left 1
            · intro W' hSw
              obtain ⟨hS1, hS2⟩ := hSw
              go_simp
              try with_reducible rfl
            try simp only [Act.put, List.setIfInBounds_toArray, List.set_cons_zero, List.set_cons_succ]
            refine wpAnyH_take (i := 1) (oi := ⟨_, _, _, _, _, _⟩) (v := ?_) rfl (by kernel_rfl) (by kernel_rfl) (by kernel_rfl) (fun _ _ _ h => h) (Or.inl ⟨by rfl, ?_⟩) (by assumption) ?_
            rotate_left 1
            · intro W' hSw
              obtain ⟨hS1, hS2⟩ := hSw
              go_simp
              try with_reducible rfl
            try simp only [Act.put, List.setIfInBounds_toArray, List.set_cons_zero, List.set_cons_succ]
            refine wpAnyH_take (i := 3) (oi := ⟨_, _, _, _, _, _⟩) (v := ?_) rfl (by kernel_rfl) (by kernel_rfl) (by kernel_rfl) (fun _ _ _ h => h) (Or.inl ⟨by rfl, ?_⟩) (by assumption) ?_
            rotate_left 1
            · intro W' hSw
              obtain ⟨hS1, hS2⟩ := hSw
              go_simp
              try with_reducible rfl
            try simp only [Act.put, List.setIfInBounds_toArray, List.set_cons_zero, List.set_cons_succ]
            refine wpAnyH_take (i := 4) (oi := ⟨_, _, _, _, _, _⟩) (v := ?_) rfl (by kernel_rfl) (by kernel_rfl) (by kernel_rfl) (fun _ _ _ h => h) (Or.inl ⟨by rfl, ?_⟩) (by assumption) ?_
            rotate_left 1
            · intro W' hSw
              obtain ⟨hS1, hS2⟩ := hSw
              go_simp
              try with_reducible rfl
            try simp only [Act.put, List.setIfInBounds_toArray, List.set_cons_zero, List.set_cons_succ]
            refine wpAnyH_take (i := 5) (oi := ⟨_, _, _, _, _, _⟩) (v := ?_) rfl (by kernel_rfl) (by kernel_rfl) (by kernel_rfl) (fun _ _ _ h => h) (Or.inl ⟨by rfl, ?_⟩) (by assumption) ?_
            rotate_left 1
            · intro W' hSw
              obtain ⟨hS1, hS2⟩ := hSw
              go_simp
              try with_reducible rfl
            try simp only [Act.put, List.setIfInBounds_toArray, List.set_cons_zero, List.set_cons_succ]
            refine wpAnyH_take (i := 6) (oi := ⟨_, _, _, _, _, _⟩) (v := ?_) rfl (by kernel_rfl) (by kernel_rfl) (by kernel_rfl) (fun _ _ _ h => h) (Or.inl ⟨by rfl, ?_⟩) (by assumption) ?_
            rotate_left 1
            · intro W' hSw
              obtain ⟨hS1, hS2⟩ := hSw
              go_simp
              try with_reducible rfl
            try simp only [Act.put, List.setIfInBounds_toArray, List.set_cons_zero, List.set_cons_succ]
            refine wpAnyH_ready (rs := [2]) (by kernel_rfl) (by simp) ?_
            refine AllReadyH.cons (o := ⟨_, _, _, _, _, _⟩) rfl (fun K hK => ?_) AllReadyH.nil
            go_simp
            refine (isZero_any V6.drew p'.last).mono ?_
            rintro e V7 ⟨rfl, he⟩
            have HPy : Hid (PlayAt w bp p' mh' ma' ns' V7) := HPx.out.grow (ext_Ext he)
            have hby := HPy.out.blk
            dsimp only
            refine hK.out _ _ ?_ (fun hHeld => ?_)
            · exact ⟨hby, trivial⟩
            clear hK K
            clear he
            try simp only [Act.put, List.setIfInBounds_toArray, List.set_cons_zero, List.set_cons_succ]
            refine wpAnyH_take (i := 7) (oi := ⟨_, _, _, _, _, _⟩) (v := ?_) rfl (by kernel_rfl) (by kernel_rfl) (by kernel_rfl) (fun _ _ _ h => h) (Or.inl ⟨by rfl, ?_⟩) (by assumption) ?_
            rotate_left 1
            · intro W' hSw
              obtain ⟨hS1, hS2⟩ := hSw
              go_simp
              try with_reducible rfl
            try simp only [Act.put, List.setIfInBounds_toArray, List.set_cons_zero, List.set_cons_succ]
            refine wpAnyH_done (by kernel_rfl) ?_ _
            go_wp2_with fail
            refine ⟨rfl, rfl, ?_, ?_⟩
            · refine ⟨rfl, rfl, rfl, rfl, i + 1, p', mh', ma', ns', by omega, ?_, hns3, hg1, hg2, HPy⟩
              show Value.int .i64 _ = _
              go_num
            · show len - (intOf (Value.int .i64 _)).toNat < len - (intOf (F 16)).toNat
              rw [HIV.out]
              simp [intOf]; omega
          · have hlf : Op.bytesLess p'.prev.toList p'.last.toList = false := by simpa using hl
            have hsl : Op.bytesLess s1 s2 = false := hq.trans hlf
            by_cases he : p'.prev = p'.last
            · have hcmp : cmpD p'.prev p'.last = 0 := by unfold cmpD; rw [if_neg hl, if_pos he]
              have hdec : decide (p'.prev = p'.last) = true := decide_eq_true he
              have hsq : (s1 == s2) = true := by rw [beq_iff_eq]; exact hq2.2 he
              clear hq hq2 hl he hlf
              go_wp2_with fail
              refine wp_region_held_drew (S := fun W' => blk W' bp = some p'.enc ∧ True) (by kernel_rfl) ⟨hbx, trivial⟩ (fun hHeld => ?_)
              have HPx : Hid (PlayAt w bp p' mh' ma' ns' W7.drew) := HPx.out.grow (extends_drew (ext_Ext (Ext.refl _)))
              refine wpAnyH_take (i := 0) (oi := ⟨_, _, _, _, _, _⟩) (v := ?_) rfl (by kernel_rfl) (by kernel_rfl) (by kernel_rfl) (fun _ _ _ h => h) (Or.inl ⟨by rfl, ?_⟩) (by assumption) ?_
              rotate_left 1
              · intro W' hSw
                obtain ⟨hS1, hS2⟩ := hSw
                go_simp
                try with_reducible rfl
              try simp only [Act.put, List.setIfInBounds_toArray, List.set_cons_zero, List.set_cons_succ]
              refine wpAnyH_take (i := 1) (oi := ⟨_, _, _, _, _, _⟩) (v := ?_) rfl (by kernel_rfl) (by kernel_rfl) (by kernel_rfl) (fun _ _ _ h => h) (Or.inl ⟨by rfl, ?_⟩) (by assumption) ?_
              rotate_left 1
              · intro W' hSw
                obtain ⟨hS1, hS2⟩ := hSw
                go_simp
                try with_reducible rfl
              try simp only [Act.put, List.setIfInBounds_toArray, List.set_cons_zero, List.set_cons_succ]
              refine wpAnyH_take (i := 3) (oi := ⟨_, _, _, _, _, _⟩) (v := ?_) rfl (by kernel_rfl) (by kernel_rfl) (by kernel_rfl) (fun _ _ _ h => h) (Or.inl ⟨by rfl, ?_⟩) (by assumption) ?_
              rotate_left 1
              · intro W' hSw
                obtain ⟨hS1, hS2⟩ := hSw
                go_simp
                try with_reducible rfl
              try simp only [Act.put, List.setIfInBounds_toArray, List.set_cons_zero, List.set_cons_succ]
              refine wpAnyH_take (i := 4) (oi := ⟨_, _, _, _, _, _⟩) (v := ?_) rfl (by kernel_rfl) (by kernel_rfl) (by kernel_rfl) (fun _ _ _ h => h) (Or.inl ⟨by rfl, ?_⟩) (by assumption) ?_
              rotate_left 1
              · intro W' hSw
                obtain ⟨hS1, hS2⟩ := hSw
                go_simp
                try with_reducible rfl
              try simp only [Act.put, List.setIfInBounds_toArray, List.set_cons_zero, List.set_cons_succ]
              refine wpAnyH_ready (rs := [2]) (by kernel_rfl) (by simp) ?_
              refine AllReadyH.cons (o := ⟨_, _, _, _, _, _⟩) rfl (fun K hK => ?_) AllReadyH.nil
              go_simp
              refine (hex_any W7.drew p'.prev).mono ?_
              rintro e V1 ⟨rfl, he⟩
              rw [← HS1.out]
              have hxx : W7.drew.Extends V1 := ext_Ext he
              have HPy : Hid (PlayAt w bp p' mh' ma' ns' V1) := HPx.out.grow hxx
              have hby := HPy.out.blk
              dsimp only
              refine hK.out _ _ ?_ (fun hHeld => ?_)
              · exact ⟨hby, trivial⟩
              clear hK K
              clear he hxx HPx hbx
              have HPx := HPy
              have hbx := hby
              clear HPy hby
              try simp only [Act.put, List.setIfInBounds_toArray, List.set_cons_zero, List.set_cons_succ]
              refine wpAnyH_ready (rs := [5]) (by kernel_rfl) (by simp) ?_
              refine AllReadyH.cons (o := ⟨_, _, _, _, _, _⟩) rfl (fun K hK => ?_) AllReadyH.nil
              go_simp
              refine (hex_any V1 p'.last).mono ?_
              rintro e V2 ⟨rfl, he⟩
              rw [← HS2.out]
              have hxx : V1.Extends V2 := ext_Ext he
              have HPy : Hid (PlayAt w bp p' mh' ma' ns' V2) := HPx.out.grow hxx
              have hby := HPy.out.blk
              dsimp only
              refine hK.out _ _ ?_ (fun hHeld => ?_)
              · exact ⟨hby, trivial⟩
              clear hK K
              clear he hxx HPx hbx
              have HPx := HPy
              have hbx := hby
              clear HPy hby
              try simp only [Act.put, List.setIfInBounds_toArray, List.set_cons_zero, List.set_cons_succ]
              refine wpAnyH_take (i := 6) (oi := ⟨_, _, _, _, _, _⟩) (v := ?_) rfl (by kernel_rfl) (by kernel_rfl) (by kernel_rfl) (fun _ _ _ h => h) (Or.inl ⟨by rfl, ?_⟩) (by assumption) ?_
              rotate_left 1
              · intro W' hSw
                obtain ⟨hS1, hS2⟩ := hSw
                go_simp
                try with_reducible rfl
              try simp only [Act.put, List.setIfInBounds_toArray, List.set_cons_zero, List.set_cons_succ]
              refine wpAnyH_done (by kernel_rfl) ?_ _
              go_wp2_with fail
              refine wp_region_held_drew (S := fun W' => blk W' bp = some p'.enc ∧ True) (by kernel_rfl) ⟨hbx, trivial⟩ (fun hHeld => ?_)
              have HPx : Hid (PlayAt w bp p' mh' ma' ns' V2.drew) := HPx.out.grow (extends_drew (ext_Ext (Ext.refl _)))
              refine wpAnyH_take (i := 0) (oi := ⟨_, _, _, _, _, _⟩) (v := ?_) rfl (by kernel_rfl) (by kernel_rfl) (by kernel_rfl) (fun _ _ _ h => h) (Or.inl ⟨by rfl, ?_⟩) (by assumption) ?_
              rotate_left 1
              · intro W' hSw
                obtain ⟨hS1, hS2⟩ := hSw
                go_simp
                try with_reducible rfl
              try simp only [Act.put, List.setIfInBounds_toArray, List.set_cons_zero, List.set_cons_succ]
              refine wpAnyH_take (i := 1) (oi := ⟨_, _, _, _, _, _⟩) (v := ?_) rfl (by kernel_rfl) (by kernel_rfl) (by kernel_rfl) (fun _ _ _ h => h) (Or.inl ⟨by rfl, ?_⟩) (by assumption) ?_
              rotate_left 1
              · intro W' hSw
                obtain ⟨hS1, hS2⟩ := hSw
                go_simp
                try with_reducible rfl
              try simp only [Act.put, List.setIfInBounds_toArray, List.set_cons_zero, List.set_cons_succ]
              refine wpAnyH_take (i := 3) (oi := ⟨_, _, _, _, _, _⟩) (v := ?_) rfl (by kernel_rfl) (by kernel_rfl) (by kernel_rfl) (fun _ _ _ h => h) (Or.inl ⟨by rfl, ?_⟩) (by assumption) ?_
              rotate_left 1
              · intro W' hSw
                obtain ⟨hS1, hS2⟩ := hSw
                go_simp
                try with_reducible rfl
              try simp only [Act.put, List.setIfInBounds_toArray, List.set_cons_zero, List.set_cons_succ]
              refine wpAnyH_take (i := 4) (oi := ⟨_, _, _, _, _, _⟩) (v := ?_) rfl (by kernel_rfl) (by kernel_rfl) (by kernel_rfl) (fun _ _ _ h => h) (Or.inl ⟨by rfl, ?_⟩) (by assumption) ?_
              rotate_left 1
              · intro W' hSw
                obtain ⟨hS1, hS2⟩ := hSw
                go_simp
                try with_reducible rfl
              try simp only [Act.put, List.setIfInBounds_toArray, List.set_cons_zero, List.set_cons_succ]
              refine wpAnyH_ready (rs := [2]) (by kernel_rfl) (by simp) ?_
              refine AllReadyH.cons (o := ⟨_, _, _, _, _, _⟩) rfl (fun K hK => ?_) AllReadyH.nil
              go_simp
              refine (hex_any V2.drew p'.prev).mono ?_
              rintro e V3 ⟨rfl, he⟩
              rw [← HS1.out]
              have hxx : V2.drew.Extends V3 := ext_Ext he
              have HPy : Hid (PlayAt w bp p' mh' ma' ns' V3) := HPx.out.grow hxx
              have hby := HPy.out.blk
              dsimp only
              refine hK.out _ _ ?_ (fun hHeld => ?_)
              · exact ⟨hby, trivial⟩
              clear hK K
              clear he hxx HPx hbx
              have HPx := HPy
              have hbx := hby
              clear HPy hby
              try simp only [Act.put, List.setIfInBounds_toArray, List.set_cons_zero, List.set_cons_succ]
              refine wpAnyH_ready (rs := [5]) (by kernel_rfl) (by simp) ?_
              refine AllReadyH.cons (o := ⟨_, _, _, _, _, _⟩) rfl (fun K hK => ?_) AllReadyH.nil
              go_simp
              refine (hex_any V3 p'.last).mono ?_
              rintro e V4 ⟨rfl, he⟩
              rw [← HS2.out]
              have hxx : V3.Extends V4 := ext_Ext he
              have HPy : Hid (PlayAt w bp p' mh' ma' ns' V4) := HPx.out.grow hxx
              have hby := HPy.out.blk
              dsimp only
              refine hK.out _ _ ?_ (fun hHeld => ?_)
              · exact ⟨hby, trivial⟩
              clear hK K
              clear he hxx HPx hbx
              have HPx := HPy
              have hbx := hby
              clear HPy hby
              try simp only [Act.put, List.setIfInBounds_toArray, List.set_cons_zero, List.set_cons_succ]
              refine wpAnyH_take (i := 6) (oi := ⟨_, _, _, _, _, _⟩) (v := ?_) rfl (by kernel_rfl) (by kernel_rfl) (by kernel_rfl) (fun _ _ _ h => h) (Or.inl ⟨by rfl, ?_⟩) (by assumption) ?_
              rotate_left 1
              · intro W' hSw
                obtain ⟨hS1, hS2⟩ := hSw
                go_simp
                try with_reducible rfl
              try simp only [Act.put, List.setIfInBounds_toArray, List.set_cons_zero, List.set_cons_succ]
              refine wpAnyH_done (by kernel_rfl) ?_ _
              go_wp2_with fail
              refine (compare_any V4 p'.prev p'.last).mono ?_
              rintro e V5 ⟨rfl, he⟩
              rw [hcmp]
              have HPy : Hid (PlayAt w bp p' mh' ma' ns' V5) := HPx.out.grow (ext_Ext he)
              have hby := HPy.out.blk
              clear HPx hbx he
              go_wp2_with fail
              refine (equal_any V5 p'.prev p'.last).mono ?_
              rintro e V6 ⟨rfl, he⟩
              rw [hdec]
              have HPx : Hid (PlayAt w bp p' mh' ma' ns' V6) := HPy.out.grow (ext_Ext he)
              have hbx := HPx.out.blk
              clear HPy hby he
              go_wp2_with fail
              refine wp_region_held_drew (S := fun W' => blk W' bp = some p'.enc ∧ True) (by kernel_rfl) ⟨hbx, trivial⟩ (fun hHeld => ?_)
              have HPx : Hid (PlayAt w bp p' mh' ma' ns' V6.drew) := HPx.out.grow (extends_drew (ext_Ext (Ext.refl _)))
              refine wpAnyH_take (i := 0) (oi := ⟨_, _, _, _, _, _⟩) (v := ?_) rfl (by kernel_rfl) (by kernel_rfl) (by kernel_rfl) (fun _ _ _ h => h) (Or.inl ⟨by rfl, ?_⟩) (by assumption) ?_
              rotate_left 1
              · intro W' hSw
                obtain ⟨hS1, hS2⟩ := hSw
                go_simp
                try with_reducible rfl
              try simp only [Act.put, List.setIfInBounds_toArray, List.set_cons_zero, List.set_cons_succ]
              refine wpAnyH_take (i := 1) (oi := ⟨_, _, _, _, _, _⟩) (v := ?_) rfl (by kernel_rfl) (by kernel_rfl) (by kernel_rfl) (fun _ _ _ h => h) (Or.inl ⟨by rfl, ?_⟩) (by assumption) ?_
              rotate_left 1
              · intro W' hSw
                obtain ⟨hS1, hS2⟩ := hSw
                go_simp
                try with_reducible rfl
              try simp only [Act.put, List.setIfInBounds_toArray, List.set_cons_zero, List.set_cons_succ]
              refine wpAnyH_take (i := 3) (oi := ⟨_, _, _, _, _, _⟩) (v := ?_) rfl (by kernel_rfl) (by kernel_rfl) (by kernel_rfl) (fun _ _ _ h => h) (Or.inl ⟨by rfl, ?_⟩) (by assumption) ?_
              rotate_left 1
              · intro W' hSw
                obtain ⟨hS1, hS2⟩ := hSw
                go_simp
                try with_reducible rfl
              try simp only [Act.put, List.setIfInBounds_toArray, List.set_cons_zero, List.set_cons_succ]
              refine wpAnyH_take (i := 4) (oi := ⟨_, _, _, _, _, _⟩) (v := ?_) rfl (by kernel_rfl) (by kernel_rfl) (by kernel_rfl) (fun _ _ _ h => h) (Or.inl ⟨by rfl, ?_⟩) (by assumption) ?_
              rotate_left 1
              · intro W' hSw
                obtain ⟨hS1, hS2⟩ := hSw
                go_simp
                try with_reducible rfl
              try simp only [Act.put, List.setIfInBounds_toArray, List.set_cons_zero, List.set_cons_succ]
              refine wpAnyH_take (i := 5) (oi := ⟨_, _, _, _, _, _⟩) (v := ?_) rfl (by kernel_rfl) (by kernel_rfl) (by kernel_rfl) (fun _ _ _ h => h) (Or.inl ⟨by rfl, ?_⟩) (by assumption) ?_
              rotate_left 1
              · intro W' hSw
                obtain ⟨hS1, hS2⟩ := hSw
                go_simp
                try with_reducible rfl
              try simp only [Act.put, List.setIfInBounds_toArray, List.set_cons_zero, List.set_cons_succ]
              refine wpAnyH_take (i := 6) (oi := ⟨_, _, _, _, _, _⟩) (v := ?_) rfl (by kernel_rfl) (by kernel_rfl) (by kernel_rfl) (fun _ _ _ h => h) (Or.inl ⟨by rfl, ?_⟩) (by assumption) ?_
              rotate_left 1
              · intro W' hSw
                obtain ⟨hS1, hS2⟩ := hSw
                go_simp
                try with_reducible rfl
              try simp only [Act.put, List.setIfInBounds_toArray, List.set_cons_zero, List.set_cons_succ]
              refine wpAnyH_ready (rs := [2]) (by kernel_rfl) (by simp) ?_
              refine AllReadyH.cons (o := ⟨_, _, _, _, _, _⟩) rfl (fun K hK => ?_) AllReadyH.nil
              go_simp
              refine (isZero_any V6.drew p'.last).mono ?_
              rintro e V7 ⟨rfl, he⟩
              have HPy : Hid (PlayAt w bp p' mh' ma' ns' V7) := HPx.out.grow (ext_Ext he)
              have hby := HPy.out.blk
              dsimp only
              refine hK.out _ _ ?_ (fun hHeld => ?_)
              · exact ⟨hby, trivial⟩
              clear hK K
              clear he
              try simp only [Act.put, List.setIfInBounds_toArray, List.set_cons_zero, List.set_cons_succ]
              refine wpAnyH_take (i := 7) (oi := ⟨_, _, _, _, _, _⟩) (v := ?_) rfl (by kernel_rfl) (by kernel_rfl) (by kernel_rfl) (fun _ _ _ h => h) (Or.inl ⟨by rfl, ?_⟩) (by assumption) ?_
              rotate_left 1
              · intro W' hSw
                obtain ⟨hS1, hS2⟩ := hSw
                go_simp
                try with_reducible rfl
              try simp only [Act.put, List.setIfInBounds_toArray, List.set_cons_zero, List.set_cons_succ]
              refine wpAnyH_done (by kernel_rfl) ?_ _
              go_wp2_with fail
              refine ⟨rfl, rfl, ?_, ?_⟩
              · refine ⟨rfl, rfl, rfl, rfl, i + 1, p', mh', ma', ns', by omega, ?_, hns3, hg1, hg2, HPy⟩
                show Value.int .i64 _ = _
                go_num
              · show len - (intOf (Value.int .i64 _)).toNat < len - (intOf (F 16)).toNat
                rw [HIV.out]
                simp [intOf]; omega
            · have hcmp : cmpD p'.prev p'.last = 1 := by unfold cmpD; rw [if_neg hl, if_neg he]
              have hdec : decide (p'.prev = p'.last) = false := decide_eq_false he
              have hsq : (s1 == s2) = false := by rw [beq_eq_false_iff_ne]; exact fun e => he (hq2.1 e)
              clear hq hq2 hl he hlf
              go_wp2_with fail
              refine wp_region_held_drew (S := fun W' => blk W' bp = some p'.enc ∧ True) (by kernel_rfl) ⟨hbx, trivial⟩ (fun hHeld => ?_)
              have HPx : Hid (PlayAt w bp p' mh' ma' ns' W7.drew) := HPx.out.grow (extends_drew (ext_Ext (Ext.refl _)))
              refine wpAnyH_take (i := 0) (oi := ⟨_, _, _, _, _, _⟩) (v := ?_) rfl (by kernel_rfl) (by kernel_rfl) (by kernel_rfl) (fun _ _ _ h => h) (Or.inl ⟨by rfl, ?_⟩) (by assumption) ?_
              rotate_left 1
              · intro W' hSw
                obtain ⟨hS1, hS2⟩ := hSw
                go_simp
                try with_reducible rfl
              try simp only [Act.put, List.setIfInBounds_toArray, List.set_cons_zero, List.set_cons_succ]
              refine wpAnyH_take (i := 1) (oi := ⟨_, _, _, _, _, _⟩) (v := ?_) rfl (by kernel_rfl) (by kernel_rfl) (by kernel_rfl) (fun _ _ _ h => h) (Or.inl ⟨by rfl, ?_⟩) (by assumption) ?_
              rotate_left 1
              · intro W' hSw
                obtain ⟨hS1, hS2⟩ := hSw
                go_simp
                try with_reducible rfl
              try simp only [Act.put, List.setIfInBounds_toArray, List.set_cons_zero, List.set_cons_succ]
              refine wpAnyH_take (i := 3) (oi := ⟨_, _, _, _, _, _⟩) (v := ?_) rfl (by kernel_rfl) (by kernel_rfl) (by kernel_rfl) (fun _ _ _ h => h) (Or.inl ⟨by rfl, ?_⟩) (by assumption) ?_
              rotate_left 1
              · intro W' hSw
                obtain ⟨hS1, hS2⟩ := hSw
                go_simp
                try with_reducible rfl
              try simp only [Act.put, List.setIfInBounds_toArray, List.set_cons_zero, List.set_cons_succ]
              refine wpAnyH_take (i := 4) (oi := ⟨_, _, _, _, _, _⟩) (v := ?_) rfl (by kernel_rfl) (by kernel_rfl) (by kernel_rfl) (fun _ _ _ h => h) (Or.inl ⟨by rfl, ?_⟩) (by assumption) ?_
              rotate_left 1
              · intro W' hSw
                obtain ⟨hS1, hS2⟩ := hSw
                go_simp
                try with_reducible rfl
              try simp only [Act.put, List.setIfInBounds_toArray, List.set_cons_zero, List.set_cons_succ]
              refine wpAnyH_ready (rs := [2]) (by kernel_rfl) (by simp) ?_
              refine AllReadyH.cons (o := ⟨_, _, _, _, _, _⟩) rfl (fun K hK => ?_) AllReadyH.nil
              go_simp
              refine (hex_any W7.drew p'.prev).mono ?_
              rintro e V1 ⟨rfl, he⟩
              rw [← HS1.out]
              have hxx : W7.drew.Extends V1 := ext_Ext he
              have HPy : Hid (PlayAt w bp p' mh' ma' ns' V1) := HPx.out.grow hxx
              have hby := HPy.out.blk
              dsimp only
              refine hK.out _ _ ?_ (fun hHeld => ?_)
              · exact ⟨hby, trivial⟩
              clear hK K
              clear he hxx HPx hbx
              have HPx := HPy
              have hbx := hby
              clear HPy hby
              try simp only [Act.put, List.setIfInBounds_toArray, List.set_cons_zero, List.set_cons_succ]
              refine wpAnyH_ready (rs := [5]) (by kernel_rfl) (by simp) ?_
              refine AllReadyH.cons (o := ⟨_, _, _, _, _, _⟩) rfl (fun K hK => ?_) AllReadyH.nil
              go_simp
              refine (hex_any V1 p'.last).mono ?_
              rintro e V2 ⟨rfl, he⟩
              rw [← HS2.out]
              have hxx : V1.Extends V2 := ext_Ext he
              have HPy : Hid (PlayAt w bp p' mh' ma' ns' V2) := HPx.out.grow hxx
              have hby := HPy.out.blk
              dsimp only
              refine hK.out _ _ ?_ (fun hHeld => ?_)
              · exact ⟨hby, trivial⟩
              clear hK K
              clear he hxx HPx hbx
              have HPx := HPy
              have hbx := hby
              clear HPy hby
              try simp only [Act.put, List.setIfInBounds_toArray, List.set_cons_zero, List.set_cons_succ]
              refine wpAnyH_take (i := 6) (oi := ⟨_, _, _, _, _, _⟩) (v := ?_) rfl (by kernel_rfl) (by kernel_rfl) (by kernel_rfl) (fun _ _ _ h => h) (Or.inl ⟨by rfl, ?_⟩) (by assumption) ?_
              rotate_left 1
              · intro W' hSw
                obtain ⟨hS1, hS2⟩ := hSw
                go_simp
                try with_reducible rfl
              try simp only [Act.put, List.setIfInBounds_toArray, List.set_cons_zero, List.set_cons_succ]
              refine wpAnyH_done (by kernel_rfl) ?_ _
              go_wp2_with fail
              refine wp_region_held_drew (S := fun W' => blk W' bp = some p'.enc ∧ True) (by kernel_rfl) ⟨hbx, trivial⟩ (fun hHeld => ?_)
              have HPx : Hid (PlayAt w bp p' mh' ma' ns' V2.drew) := HPx.out.grow (extends_drew (ext_Ext (Ext.refl _)))
              refine wpAnyH_take (i := 0) (oi := ⟨_, _, _, _, _, _⟩) (v := ?_) rfl (by kernel_rfl) (by kernel_rfl) (by kernel_rfl) (fun _ _ _ h => h) (Or.inl ⟨by rfl, ?_⟩) (by assumption) ?_
              rotate_left 1
              · intro W' hSw
                obtain ⟨hS1, hS2⟩ := hSw
                go_simp
                try with_reducible rfl
              try simp only [Act.put, List.setIfInBounds_toArray, List.set_cons_zero, List.set_cons_succ]
              refine wpAnyH_take (i := 1) (oi := ⟨_, _, _, _, _, _⟩) (v := ?_) rfl (by kernel_rfl) (by kernel_rfl) (by kernel_rfl) (fun _ _ _ h => h) (Or.inl ⟨by rfl, ?_⟩) (by assumption) ?_
              rotate_left 1
              · intro W' hSw
                obtain ⟨hS1, hS2⟩ := hSw
                go_simp
                try with_reducible rfl
              try simp only [Act.put, List.setIfInBounds_toArray, List.set_cons_zero, List.set_cons_succ]
              refine wpAnyH_take (i := 3) (oi := ⟨_, _, _, _, _, _⟩) (v := ?_) rfl (by kernel_rfl) (by kernel_rfl) (by kernel_rfl) (fun _ _ _ h => h) (Or.inl ⟨by rfl, ?_⟩) (by assumption) ?_
              rotate_left 1
              · intro W' hSw
                obtain ⟨hS1, hS2⟩ := hSw
                go_simp
                try with_reducible rfl
              try simp only [Act.put, List.setIfInBounds_toArray, List.set_cons_zero, List.set_cons_succ]
              refine wpAnyH_take (i := 4) (oi := ⟨_, _, _, _, _, _⟩) (v := ?_) rfl (by kernel_rfl) (by kernel_rfl) (by kernel_rfl) (fun _ _ _ h => h) (Or.inl ⟨by rfl, ?_⟩) (by assumption) ?_
              rotate_left 1
              · intro W' hSw
                obtain ⟨hS1, hS2⟩ := hSw
                go_simp
                try with_reducible rfl
              try simp only [Act.put, List.setIfInBounds_toArray, List.set_cons_zero, List.set_cons_succ]
              refine wpAnyH_ready (rs := [2]) (by kernel_rfl) (by simp) ?_
              refine AllReadyH.cons (o := ⟨_, _, _, _, _, _⟩) rfl (fun K hK => ?_) AllReadyH.nil
              go_simp
              refine (hex_any V2.drew p'.prev).mono ?_
              rintro e V3 ⟨rfl, he⟩
              rw [← HS1.out]
              have hxx : V2.drew.Extends V3 := ext_Ext he
              have HPy : Hid (PlayAt w bp p' mh' ma' ns' V3) := HPx.out.grow hxx
              have hby := HPy.out.blk
              dsimp only
              refine hK.out _ _ ?_ (fun hHeld => ?_)
              · exact ⟨hby, trivial⟩
              clear hK K
              clear he hxx HPx hbx
              have HPx := HPy
              have hbx := hby
              clear HPy hby
              try simp only [Act.put, List.setIfInBounds_toArray, List.set_cons_zero, List.set_cons_succ]
              refine wpAnyH_ready (rs := [5]) (by kernel_rfl) (by simp) ?_
              refine AllReadyH.cons (o := ⟨_, _, _, _, _, _⟩) rfl (fun K hK => ?_) AllReadyH.nil
              go_simp
              refine (hex_any V3 p'.last).mono ?_
              rintro e V4 ⟨rfl, he⟩
              rw [← HS2.out]
              have hxx : V3.Extends V4 := ext_Ext he
              have HPy : Hid (PlayAt w bp p' mh' ma' ns' V4) := HPx.out.grow hxx
              have hby := HPy.out.blk
              dsimp only
              refine hK.out _ _ ?_ (fun hHeld => ?_)
              · exact ⟨hby, trivial⟩
              clear hK K
              clear he hxx HPx hbx
              have HPx := HPy
              have hbx := hby
              clear HPy hby
              try simp only [Act.put, List.setIfInBounds_toArray, List.set_cons_zero, List.set_cons_succ]
              refine wpAnyH_take (i := 6) (oi := ⟨_, _, _, _, _, _⟩) (v := ?_) rfl (by kernel_rfl) (by kernel_rfl) (by kernel_rfl) (fun _ _ _ h => h) (Or.inl ⟨by rfl, ?_⟩) (by assumption) ?_
              rotate_left 1
              · intro W' hSw
                obtain ⟨hS1, hS2⟩ := hSw
                go_simp
                try with_reducible rfl
              try simp only [Act.put, List.setIfInBounds_toArray, List.set_cons_zero, List.set_cons_succ]
              refine wpAnyH_done (by kernel_rfl) ?_ _
              go_wp2_with fail
              refine (compare_any V4 p'.prev p'.last).mono ?_
              rintro e V5 ⟨rfl, he⟩
              rw [hcmp]
              have HPy : Hid (PlayAt w bp p' mh' ma' ns' V5) := HPx.out.grow (ext_Ext he)
              have hby := HPy.out.blk
              clear HPx hbx he
              go_wp2_with fail
              refine (equal_any V5 p'.prev p'.last).mono ?_
              rintro e V6 ⟨rfl, he⟩
              rw [hdec]
              have HPx : Hid (PlayAt w bp p' mh' ma' ns' V6) := HPy.out.grow (ext_Ext he)
              have hbx := HPx.out.blk
              clear HPy hby he
              go_wp2_with fail
              refine wp_region_held_drew (S := fun W' => blk W' bp = some p'.enc ∧ True) (by kernel_rfl) ⟨hbx, trivial⟩ (fun hHeld => ?_)
              have HPx : Hid (PlayAt w bp p' mh' ma' ns' V6.drew) := HPx.out.grow (extends_drew (ext_Ext (Ext.refl _)))
              refine wpAnyH_take (i := 0) (oi := ⟨_, _, _, _, _, _⟩) (v := ?_) rfl (by kernel_rfl) (by kernel_rfl) (by kernel_rfl) (fun _ _ _ h => h) (Or.inl ⟨by rfl, ?_⟩) (by assumption) ?_
              rotate_left 1
              · intro W' hSw
                obtain ⟨hS1, hS2⟩ := hSw
                go_simp
                try with_reducible rfl
              try simp only [Act.put, List.setIfInBounds_toArray, List.set_cons_zero, List.set_cons_succ]
              refine wpAnyH_take (i := 1) (oi := ⟨_, _, _, _, _, _⟩) (v := ?_) rfl (by kernel_rfl) (by kernel_rfl) (by kernel_rfl) (fun _ _ _ h => h) (Or.inl ⟨by rfl, ?_⟩) (by assumption) ?_
              rotate_left 1
              · intro W' hSw
                obtain ⟨hS1, hS2⟩ := hSw
                go_simp
                try with_reducible rfl
              try simp only [Act.put, List.setIfInBounds_toArray, List.set_cons_zero, List.set_cons_succ]
              refine wpAnyH_take (i := 3) (oi := ⟨_, _, _, _, _, _⟩) (v := ?_) rfl (by kernel_rfl) (by kernel_rfl) (by kernel_rfl) (fun _ _ _ h => h) (Or.inl ⟨by rfl, ?_⟩) (by assumption) ?_
              rotate_left 1
              · intro W' hSw
                obtain ⟨hS1, hS2⟩ := hSw
                go_simp
                try with_reducible rfl
              try simp only [Act.put, List.setIfInBounds_toArray, List.set_cons_zero, List.set_cons_succ]
              refine wpAnyH_take (i := 4) (oi := ⟨_, _, _, _, _, _⟩) (v := ?_) rfl (by kernel_rfl) (by kernel_rfl) (by kernel_rfl) (fun _ _ _ h => h) (Or.inl ⟨by rfl, ?_⟩) (by assumption) ?_
              rotate_left 1
              · intro W' hSw
                obtain ⟨hS1, hS2⟩ := hSw
                go_simp
                try with_reducible rfl
              try simp only [Act.put, List.setIfInBounds_toArray, List.set_cons_zero, List.set_cons_succ]
              refine wpAnyH_take (i := 5) (oi := ⟨_, _, _, _, _, _⟩) (v := ?_) rfl (by kernel_rfl) (by kernel_rfl) (by kernel_rfl) (fun _ _ _ h => h) (Or.inl ⟨by rfl, ?_⟩) (by assumption) ?_
              rotate_left 1
              · intro W' hSw
                obtain ⟨hS1, hS2⟩ := hSw
                go_simp
                try with_reducible rfl
              try simp only [Act.put, List.setIfInBounds_toArray, List.set_cons_zero, List.set_cons_succ]
              refine wpAnyH_take (i := 6) (oi := ⟨_, _, _, _, _, _⟩) (v := ?_) rfl (by kernel_rfl) (by kernel_rfl) (by kernel_rfl) (fun _ _ _ h => h) (Or.inl ⟨by rfl, ?_⟩) (by assumption) ?_
              rotate_left 1
              · intro W' hSw
                obtain ⟨hS1, hS2⟩ := hSw
                go_simp
                try with_reducible rfl
              try simp only [Act.put, List.setIfInBounds_toArray, List.set_cons_zero, List.set_cons_succ]
              refine wpAnyH_ready (rs := [2]) (by kernel_rfl) (by simp) ?_
              refine AllReadyH.cons (o := ⟨_, _, _, _, _, _⟩) rfl (fun K hK => ?_) AllReadyH.nil
              go_simp
              refine (isZero_any V6.drew p'.last).mono ?_
              rintro e V7 ⟨rfl, he⟩
              have HPy : Hid (PlayAt w bp p' mh' ma' ns' V7) := HPx.out.grow (ext_Ext he)
              have hby := HPy.out.blk
              dsimp only
              refine hK.out _ _ ?_ (fun hHeld => ?_)
              · exact ⟨hby, trivial⟩
              clear hK K
              clear he
              try simp only [Act.put, List.setIfInBounds_toArray, List.set_cons_zero, List.set_cons_succ]
              refine wpAnyH_take (i := 7) (oi := ⟨_, _, _, _, _, _⟩) (v := ?_) rfl (by kernel_rfl) (by kernel_rfl) (by kernel_rfl) (fun _ _ _ h => h) (Or.inl ⟨by rfl, ?_⟩) (by assumption) ?_
              rotate_left 1
              · intro W' hSw
                obtain ⟨hS1, hS2⟩ := hSw
                go_simp
                try with_reducible rfl
              try simp only [Act.put, List.setIfInBounds_toArray, List.set_cons_zero, List.set_cons_succ]
              refine wpAnyH_done (by kernel_rfl) ?_ _
              go_wp2_with fail
              refine ⟨rfl, rfl, ?_, ?_⟩
              · refine ⟨rfl, rfl, rfl, rfl, i + 1, p', mh', ma', ns', by omega, ?_, hns3, hg1, hg2, HPy⟩
                show Value.int .i64 _ = _
                go_num
              · show len - (intOf (Value.int .i64 _)).toNat < len - (intOf (F 16)).toNat
                rw [HIV.out]
                simp [intOf]; omega
        · have hcd : decide (ans.code = 0) = false := decide_eq_false hc
          have hcb : (ans.code == 0) = false := by simp [hc]
          refine wp_region_held_drew (S := fun W' => (blk W' bo = some op.enc ∧ blk W' ba = some ans.enc) ∧ True) (by kernel_rfl) ⟨⟨ho6, ha6⟩, trivial⟩ (fun hHeld => ?_)
          refine wpAnyH_take (i := 0) (oi := ⟨_, _, _, _, _, _⟩) (v := ?_) rfl (by kernel_rfl) (by kernel_rfl) (by kernel_rfl) (fun _ _ _ h => h) (Or.inl ⟨by rfl, ?_⟩) (by assumption) ?_
          rotate_left 1
          · intro W' hSw
            obtain ⟨⟨hS1, hS3⟩, hS2⟩ := hSw
            go_simp
            try with_reducible rfl
          try simp only [Act.put, List.setIfInBounds_toArray, List.set_cons_zero, List.set_cons_succ]
          refine wpAnyH_take (i := 1) (oi := ⟨_, _, _, _, _, _⟩) (v := ?_) rfl (by kernel_rfl) (by kernel_rfl) (by kernel_rfl) (fun _ _ _ h => h) (Or.inl ⟨by rfl, ?_⟩) (by assumption) ?_
          rotate_left 1
          · intro W' hSw
            obtain ⟨⟨hS1, hS3⟩, hS2⟩ := hSw
            go_simp
            try with_reducible rfl
          try simp only [Act.put, List.setIfInBounds_toArray, List.set_cons_zero, List.set_cons_succ]
          refine wpAnyH_take (i := 2) (oi := ⟨_, _, _, _, _, _⟩) (v := ?_) rfl (by kernel_rfl) (by kernel_rfl) (by kernel_rfl) (fun _ _ _ h => h) (Or.inl ⟨by rfl, ?_⟩) (by assumption) ?_
          rotate_left 1
          · intro W' hSw
            obtain ⟨⟨hS1, hS3⟩, hS2⟩ := hSw
            go_simp
            try with_reducible rfl
          try simp only [Act.put, List.setIfInBounds_toArray, List.set_cons_zero, List.set_cons_succ]
          refine wpAnyH_take (i := 3) (oi := ⟨_, _, _, _, _, _⟩) (v := ?_) rfl (by kernel_rfl) (by kernel_rfl) (by kernel_rfl) (fun _ _ _ h => h) (Or.inl ⟨by rfl, ?_⟩) (by assumption) ?_
          rotate_left 1
          · intro W' hSw
            obtain ⟨⟨hS1, hS3⟩, hS2⟩ := hSw
            go_simp
            try with_reducible rfl
          try simp only [Act.put, List.setIfInBounds_toArray, List.set_cons_zero, List.set_cons_succ]
          refine wpAnyH_take (i := 4) (oi := ⟨_, _, _, _, _, _⟩) (v := ?_) rfl (by kernel_rfl) (by kernel_rfl) (by kernel_rfl) (fun _ _ _ h => h) (Or.inl ⟨by rfl, ?_⟩) (by assumption) ?_
          rotate_left 1
          · intro W' hSw
            obtain ⟨⟨hS1, hS3⟩, hS2⟩ := hSw
            go_simp
            try with_reducible rfl
          try simp only [Act.put, List.setIfInBounds_toArray, List.set_cons_zero, List.set_cons_succ]
          refine wpAnyH_take (i := 5) (oi := ⟨_, _, _, _, _, _⟩) (v := ?_) rfl (by kernel_rfl) (by kernel_rfl) (by kernel_rfl) (fun _ _ _ h => h) (Or.inl ⟨by rfl, ?_⟩) (by assumption) ?_
          rotate_left 1
          · intro W' hSw
            obtain ⟨⟨hS1, hS3⟩, hS2⟩ := hSw
            go_simp
            try with_reducible rfl
          try simp only [Act.put, List.setIfInBounds_toArray, List.set_cons_zero, List.set_cons_succ]
          refine wpAnyH_take (i := 6) (oi := ⟨_, _, _, _, _, _⟩) (v := ?_) rfl (by kernel_rfl) (by kernel_rfl) (by kernel_rfl) (fun _ _ _ h => h) (Or.inl ⟨by rfl, ?_⟩) (by assumption) ?_
          rotate_left 1
          · intro W' hSw
            obtain ⟨⟨hS1, hS3⟩, hS2⟩ := hSw
            go_simp
            try with_reducible rfl
          try simp only [Act.put, List.setIfInBounds_toArray, List.set_cons_zero, List.set_cons_succ]
          refine wpAnyH_take (i := 7) (oi := ⟨_, _, _, _, _, _⟩) (v := ?_) rfl (by kernel_rfl) (by kernel_rfl) (by kernel_rfl) (fun _ _ _ h => h) (Or.inl ⟨by rfl, ?_⟩) (by assumption) ?_
          rotate_left 1
          · intro W' hSw
            obtain ⟨⟨hS1, hS3⟩, hS2⟩ := hSw
            go_simp
            try with_reducible rfl
          try simp only [Act.put, List.setIfInBounds_toArray, List.set_cons_zero, List.set_cons_succ]
          refine wpAnyH_take (i := 8) (oi := ⟨_, _, _, _, _, _⟩) (v := ?_) rfl (by kernel_rfl) (by kernel_rfl) (by kernel_rfl) (fun _ _ _ h => h) (Or.inl ⟨by rfl, ?_⟩) (by assumption) ?_
          rotate_left 1
          · intro W' hSw
            obtain ⟨⟨hS1, hS3⟩, hS2⟩ := hSw
            go_simp
            try with_reducible rfl
          try simp only [Act.put, List.setIfInBounds_toArray, List.set_cons_zero, List.set_cons_succ]
          refine wpAnyH_take (i := 9) (oi := ⟨_, _, _, _, _, _⟩) (v := undef) rfl (by kernel_rfl) (by kernel_rfl) (by kernel_rfl) (fun _ _ _ h => h) (Or.inr ⟨by rfl, rfl⟩) (by assumption) ?_
          try simp only [Act.put, List.setIfInBounds_toArray, List.set_cons_zero, List.set_cons_succ]
          refine wpAnyH_take (i := 10) (oi := ⟨_, _, _, _, _, _⟩) (v := undef) rfl (by kernel_rfl) (by kernel_rfl) (by kernel_rfl) (fun _ _ _ h => h) (Or.inr ⟨by rfl, rfl⟩) (by assumption) ?_
          try simp only [Act.put, List.setIfInBounds_toArray, List.set_cons_zero, List.set_cons_succ]
          refine wpAnyH_take (i := 11) (oi := ⟨_, _, _, _, _, _⟩) (v := undef) rfl (by kernel_rfl) (by kernel_rfl) (by kernel_rfl) (fun _ _ _ h => h) (Or.inr ⟨by rfl, rfl⟩) (by assumption) ?_
          try simp only [Act.put, List.setIfInBounds_toArray, List.set_cons_zero, List.set_cons_succ]
          refine wpAnyH_take (i := 12) (oi := ⟨_, _, _, _, _, _⟩) (v := undef) rfl (by kernel_rfl) (by kernel_rfl) (by kernel_rfl) (fun _ _ _ h => h) (Or.inr ⟨by rfl, rfl⟩) (by assumption) ?_
          try simp only [Act.put, List.setIfInBounds_toArray, List.set_cons_zero, List.set_cons_succ]
          refine wpAnyH_take (i := 13) (oi := ⟨_, _, _, _, _, _⟩) (v := undef) rfl (by kernel_rfl) (by kernel_rfl) (by kernel_rfl) (fun _ _ _ h => h) (Or.inr ⟨by rfl, rfl⟩) (by assumption) ?_
          try simp only [Act.put, List.setIfInBounds_toArray, List.set_cons_zero, List.set_cons_succ]
          refine wpAnyH_take (i := 14) (oi := ⟨_, _, _, _, _, _⟩) (v := undef) rfl (by kernel_rfl) (by kernel_rfl) (by kernel_rfl) (fun _ _ _ h => h) (Or.inr ⟨by rfl, rfl⟩) (by assumption) ?_
          try simp only [Act.put, List.setIfInBounds_toArray, List.set_cons_zero, List.set_cons_succ]
          refine wpAnyH_take (i := 15) (oi := ⟨_, _, _, _, _, _⟩) (v := undef) rfl (by kernel_rfl) (by kernel_rfl) (by kernel_rfl) (fun _ _ _ h => h) (Or.inr ⟨by rfl, rfl⟩) (by assumption) ?_
          try simp only [Act.put, List.setIfInBounds_toArray, List.set_cons_zero, List.set_cons_succ]
          refine wpAnyH_take (i := 16) (oi := ⟨_, _, _, _, _, _⟩) (v := ?_) rfl (by kernel_rfl) (by kernel_rfl) (by kernel_rfl) (fun _ _ _ h => h) (Or.inl ⟨by rfl, ?_⟩) (by assumption) ?_
          rotate_left 1
          · intro W' hSw
            obtain ⟨hS1, hS2⟩ := hSw
            go_simp
            try with_reducible rfl
          try simp only [Act.put, List.setIfInBounds_toArray, List.set_cons_zero, List.set_cons_succ]
          refine wpAnyH_done (by kernel_rfl) ?_ _
          go_upto_region 14 with fail
          refine wp_world (fun W7 => blk W7 bp = some p'.enc ∧ Hid (PlayAt w bp p' mh' ma' ns' W7)) ?_ ?_
          · exact ⟨hb6, HP6.out.grow (extends_drew (ext_Ext (Ext.refl _)))⟩
          clear hb6 ho6 ha6 HP6 hk hc
          rintro W7 ⟨hbx, HPx⟩
          obtain ⟨s1, hs1⟩ : ∃ s1, s1 = hexOf p'.prev := ⟨_, rfl⟩
          obtain ⟨s2, hs2⟩ : ∃ s2, s2 = hexOf p'.last := ⟨_, rfl⟩
          have hq : Op.bytesLess s1 s2 = Op.bytesLess p'.prev.toList p'.last.toList := by rw [hs1, hs2, hexOf_less]
          have hq2 : s1 = s2 ↔ p'.prev = p'.last := by rw [hs1, hs2]; exact ⟨hexOf_inj, fun h => by rw [h]⟩
          have HS1 : Hid (s1 = hexOf p'.prev) := hs1
          have HS2 : Hid (s2 = hexOf p'.last) := hs2
          clear hs1 hs2
          by_cases hl : Op.bytesLess p'.prev.toList p'.last.toList = true
          · have hcmp : cmpD p'.prev p'.last = -1 := by unfold cmpD; rw [if_pos hl]
            have hne : ¬ p'.prev = p'.last := fun e => by rw [e, less_irrefl] at hl; exact absurd hl (by decide)
            have hdec : decide (p'.prev = p'.last) = false := decide_eq_false hne
            have hsl : Op.bytesLess s1 s2 = true := hq.trans hl
            have hsq : (s1 == s2) = false := by rw [beq_eq_false_iff_ne]; exact fun e => hne (hq2.1 e)
            clear hq hq2 hl hne
            go_wp2_with fail
            refine wp_region_held_drew (S := fun W' => blk W' bp = some p'.enc ∧ True) (by kernel_rfl) ⟨hbx, trivial⟩ (fun hHeld => ?_)
            have HPx : Hid (PlayAt w bp p' mh' ma' ns' W7.drew) := HPx.out.grow (extends_drew (ext_Ext (Ext.refl _)))
            refine wpAnyH_take (i := 0) (oi := ⟨_, _, _, _, _, _⟩) (v := ?_) rfl (by kernel_rfl) (by kernel_rfl) (by kernel_rfl) (fun _ _ _ h => h) (Or.inl ⟨by rfl, ?_⟩) (by assumption) ?_
            rotate_left 1
            · intro W' hSw
              obtain ⟨hS1, hS2⟩ := hSw
              go_simp
              try with_reducible rfl
            try simp only [Act.put, List.setIfInBounds_toArray, List.set_cons_zero, List.set_cons_succ]
            refine wpAnyH_take (i := 1) (oi := ⟨_, _, _, _, _, _⟩) (v := ?_) rfl (by kernel_rfl) (by kernel_rfl) (by kernel_rfl) (fun _ _ _ h => h) (Or.inl ⟨by rfl, ?_⟩) (by assumption) ?_
            rotate_left 1
            · intro W' hSw
              obtain ⟨hS1, hS2⟩ := hSw
              go_simp
              try with_reducible rfl
            try simp only [Act.put, List.setIfInBounds_toArray, List.set_cons_zero, List.set_cons_succ]
            refine wpAnyH_take (i := 3) (oi := ⟨_, _, _, _, _, _⟩) (v := ?_) rfl (by kernel_rfl) (by kernel_rfl) (by kernel_rfl) (fun _ _ _ h => h) (Or.inl ⟨by rfl, ?_⟩) (by assumption) ?_
            rotate_left 1
            · intro W' hSw
              obtain ⟨hS1, hS2⟩ := hSw
              go_simp
              try with_reducible rfl
            try simp only [Act.put, List.setIfInBounds_toArray, List.set_cons_zero, List.set_cons_succ]
            refine wpAnyH_take (i := 4) (oi := ⟨_, _, _, _, _, _⟩) (v := ?_) rfl (by kernel_rfl) (by kernel_rfl) (by kernel_rfl) (fun _ _ _ h => h) (Or.inl ⟨by rfl, ?_⟩) (by assumption) ?_
            rotate_left 1
            · intro W' hSw
              obtain ⟨hS1, hS2⟩ := hSw
              go_simp
              try with_reducible rfl
            try simp only [Act.put, List.setIfInBounds_toArray, List.set_cons_zero, List.set_cons_succ]
            refine wpAnyH_ready (rs := [2]) (by kernel_rfl) (by simp) ?_
            refine AllReadyH.cons (o := ⟨_, _, _, _, _, _⟩) rfl (fun K hK => ?_) AllReadyH.nil
            go_simp
            refine (hex_any W7.drew p'.prev).mono ?_
            rintro e V1 ⟨rfl, he⟩
            rw [← HS1.out]
            have hxx : W7.drew.Extends V1 := ext_Ext he
            have HPy : Hid (PlayAt w bp p' mh' ma' ns' V1) := HPx.out.grow hxx
            have hby := HPy.out.blk
            dsimp only
            refine hK.out _ _ ?_ (fun hHeld => ?_)
            · exact ⟨hby, trivial⟩
            clear hK K
            clear he hxx HPx hbx
            have HPx := HPy
            have hbx := hby
            clear HPy hby
            try simp only [Act.put, List.setIfInBounds_toArray, List.set_cons_zero, List.set_cons_succ]
            refine wpAnyH_ready (rs := [5]) (by kernel_rfl) (by simp) ?_
            refine AllReadyH.cons (o := ⟨_, _, _, _, _, _⟩) rfl (fun K hK => ?_) AllReadyH.nil
            go_simp
            refine (hex_any V1 p'.last).mono ?_
            rintro e V2 ⟨rfl, he⟩
            rw [← HS2.out]
            have hxx : V1.Extends V2 := ext_Ext he
            have HPy : Hid (PlayAt w bp p' mh' ma' ns' V2) := HPx.out.grow hxx
            have hby := HPy.out.blk
            dsimp only
            refine hK.out _ _ ?_ (fun hHeld => ?_)
            · exact ⟨hby, trivial⟩
            clear hK K
            clear he hxx HPx hbx
            have HPx := HPy
            have hbx := hby
            clear HPy hby
            try simp only [Act.put, List.setIfInBounds_toArray, List.set_cons_zero, List.set_cons_succ]
            refine wpAnyH_take (i := 6) (oi := ⟨_, _, _, _, _, _⟩) (v := ?_) rfl (by kernel_rfl) (by kernel_rfl) (by kernel_rfl) (fun _ _ _ h => h) (Or.inl ⟨by rfl, ?_⟩) (by assumption) ?_
            rotate_left 1
            · intro W' hSw
              obtain ⟨hS1, hS2⟩ := hSw
              go_simp
              try with_reducible rfl
            try simp only [Act.put, List.setIfInBounds_toArray, List.set_cons_zero, List.set_cons_succ]
            refine wpAnyH_done (by kernel_rfl) ?_ _
            go_wp2_with fail
            refine wp_region_held_drew (S := fun W' => blk W' bp = some p'.enc ∧ True) (by kernel_rfl) ⟨hbx, trivial⟩ (fun hHeld => ?_)
            have HPx : Hid (PlayAt w bp p' mh' ma' ns' V2.drew) := HPx.out.grow (extends_drew (ext_Ext (Ext.refl _)))
            refine wpAnyH_take (i := 0) (oi := ⟨_, _, _, _, _, _⟩) (v := ?_) rfl (by kernel_rfl) (by kernel_rfl) (by kernel_rfl) (fun _ _ _ h => h) (Or.inl ⟨by rfl, ?_⟩) (by assumption) ?_
            rotate_left 1
            · intro W' hSw
              obtain ⟨hS1, hS2⟩ := hSw
              go_simp
              try with_reducible rfl
            try simp only [Act.put, List.setIfInBounds_toArray, List.set_cons_zero, List.set_cons_succ]
            refine wpAnyH_take (i := 1) (oi := ⟨_, _, _, _, _, _⟩) (v := ?_) rfl (by kernel_rfl) (by kernel_rfl) (by kernel_rfl) (fun _ _ _ h => h) (Or.inl ⟨by rfl, ?_⟩) (by assumption) ?_
            rotate_left 1
            · intro W' hSw
              obtain ⟨hS1, hS2⟩ := hSw
              go_simp
              try with_reducible rfl
            try simp only [Act.put, List.setIfInBounds_toArray, List.set_cons_zero, List.set_cons_succ]
            refine wpAnyH_take (i := 3) (oi := ⟨_, _, _, _, _, _⟩) (v := ?_) rfl (by kernel_rfl) (by kernel_rfl) (by kernel_rfl) (fun _ _ _ h => h) (Or.inl ⟨by rfl, ?_⟩) (by assumption) ?_
            rotate_left 1
            · intro W' hSw
              obtain ⟨hS1, hS2⟩ := hSw
              go_simp
              try with_reducible rfl
            try simp only [Act.put, List.setIfInBounds_toArray, List.set_cons_zero, List.set_cons_succ]
            refine wpAnyH_take (i := 4) (oi := ⟨_, _, _, _, _, _⟩) (v := ?_) rfl (by kernel_rfl) (by kernel_rfl) (by kernel_rfl) (fun _ _ _ h => h) (Or.inl ⟨by rfl, ?_⟩) (by assumption) ?_
            rotate_left 1
            · intro W' hSw
              obtain ⟨hS1, hS2⟩ := hSw
              go_simp
              try with_reducible rfl
            try simp only [Act.put, List.setIfInBounds_toArray, List.set_cons_zero, List.set_cons_succ]
            refine wpAnyH_ready (rs := [2]) (by kernel_rfl) (by simp) ?_
            refine AllReadyH.cons (o := ⟨_, _, _, _, _, _⟩) rfl (fun K hK => ?_) AllReadyH.nil
            go_simp
            refine (hex_any V2.drew p'.prev).mono ?_
            rintro e V3 ⟨rfl, he⟩
            rw [← HS1.out]
            have hxx : V2.drew.Extends V3 := ext_Ext he
            have HPy : Hid (PlayAt w bp p' mh' ma' ns' V3) := HPx.out.grow hxx
            have hby := HPy.out.blk
            dsimp only
            refine hK.out _ _ ?_ (fun hHeld => ?_)
            · exact ⟨hby, trivial⟩
            clear hK K
            clear he hxx HPx hbx
            have HPx := HPy
            have hbx := hby
            clear HPy hby
            try simp only [Act.put, List.setIfInBounds_toArray, List.set_cons_zero, List.set_cons_succ]
            refine wpAnyH_ready (rs := [5]) (by kernel_rfl) (by simp) ?_
            refine AllReadyH.cons (o := ⟨_, _, _, _, _, _⟩) rfl (fun K hK => ?_) AllReadyH.nil
            go_simp
            refine (hex_any V3 p'.last).mono ?_
            rintro e V4 ⟨rfl, he⟩
            rw [← HS2.out]
            have hxx : V3.Extends V4 := ext_Ext he
            have HPy : Hid (PlayAt w bp p' mh' ma' ns' V4) := HPx.out.grow hxx
            have hby := HPy.out.blk
            dsimp only
            refine hK.out _ _ ?_ (fun hHeld => ?_)
            · exact ⟨hby, trivial⟩
            clear hK K
            clear he hxx HPx hbx
            have HPx := HPy
            have hbx := hby
            clear HPy hby
            try simp only [Act.put, List.setIfInBounds_toArray, List.set_cons_zero, List.set_cons_succ]
            refine wpAnyH_take (i := 6) (oi := ⟨_, _, _, _, _, _⟩) (v := ?_) rfl (by kernel_rfl) (by kernel_rfl) (by kernel_rfl) (fun _ _ _ h => h) (Or.inl ⟨by rfl, ?_⟩) (by assumption) ?_
            rotate_left 1
            · intro W' hSw
              obtain ⟨hS1, hS2⟩ := hSw
              go_simp
              try with_reducible rfl
            try simp only [Act.put, List.setIfInBounds_toArray, List.set_cons_zero, List.set_cons_succ]
            refine wpAnyH_done (by kernel_rfl) ?_ _
            go_wp2_with fail
            refine (compare_any V4 p'.prev p'.last).mono ?_
            rintro e V5 ⟨rfl, he⟩
            rw [hcmp]
            have HPy : Hid (PlayAt w bp p' mh' ma' ns' V5) := HPx.out.grow (ext_Ext he)
            have hby := HPy.out.blk
            clear HPx hbx he
            go_wp2_with fail
            refine (equal_any V5 p'.prev p'.last).mono ?_
            rintro e V6 ⟨rfl, he⟩
            rw [hdec]
            have HPx : Hid (PlayAt w bp p' mh' ma' ns' V6) := HPy.out.grow (ext_Ext he)
            have hbx := HPx.out.blk
            clear HPy hby he
            go_wp2_with fail
            refine wp_region_held_drew (S := fun W' => blk W' bp = some p'.enc ∧ True) (by kernel_rfl) ⟨hbx, trivial⟩ (fun hHeld => ?_)
            have HPx : Hid (PlayAt w bp p' mh' ma' ns' V6.drew) := HPx.out.grow (extends_drew (ext_Ext (Ext.refl _)))
            refine wpAnyH_take (i := 0) (oi := ⟨_, _, _, _, _, _⟩) (v := ?_) rfl (by kernel_rfl) (by kernel_rfl) (by kernel_rfl) (fun _ _ _ h => h) (Or.inl ⟨by rfl, ?_⟩) (by assumption) ?_
            rotate_left 1
            · intro W' hSw
              obtain ⟨hS1, hS2⟩ := hSw
              go_simp
              try with_reducible rfl
            try simp only [Act.put, List.setIfInBounds_toArray, List.set_cons_zero, List.set_cons_succ]
            refine wpAnyH_take (i := 1) (oi := ⟨_, _, _, _, _, _⟩) (v := ?_) rfl (by kernel_rfl) (by kernel_rfl) (by kernel_rfl) (fun _ _ _ h => h) (Or.inl ⟨by rfl, ?_⟩) (by assumption) ?_
            rotate_left 1
            · intro W' hSw
              obtain ⟨hS1, hS2⟩ := hSw
              go_simp
              try with_reducible rfl
            try simp only [Act.put, List.setIfInBounds_toArray, List.set_cons_zero, List.set_cons_succ]
            refine wpAnyH_take (i := 3) (oi := ⟨_, _, _, _, _, _⟩) (v := ?_) rfl (by kernel_rfl) (by kernel_rfl) (by kernel_rfl) (fun _ _ _ h => h) (Or.inl ⟨by rfl, ?_⟩) (by assumption) ?_
            rotate_left 1
            · intro W' hSw
              obtain ⟨hS1, hS2⟩ := hSw
              go_simp
              try with_reducible rfl
            try simp only [Act.put, List.setIfInBounds_toArray, List.set_cons_zero, List.set_cons_succ]
            refine wpAnyH_take (i := 4) (oi := ⟨_, _, _, _, _, _⟩) (v := ?_) rfl (by kernel_rfl) (by kernel_rfl) (by kernel_rfl) (fun _ _ _ h => h) (Or.inl ⟨by rfl, ?_⟩) (by assumption) ?_
            rotate_left 1
            · intro W' hSw
              obtain ⟨hS1, hS2⟩ := hSw
              go_simp
              try with_reducible rfl
            try simp only [Act.put, List.setIfInBounds_toArray, List.set_cons_zero, List.set_cons_succ]
            refine wpAnyH_take (i := 5) (oi := ⟨_, _, _, _, _, _⟩) (v := ?_) rfl (by kernel_rfl) (by kernel_rfl) (by kernel_rfl) (fun _ _ _ h => h) (Or.inl ⟨by rfl, ?_⟩) (by assumption) ?_
            rotate_left 1
            · intro W' hSw
              obtain ⟨hS1, hS2⟩ := hSw
              go_simp
              try with_reducible rfl
            try simp only [Act.put, List.setIfInBounds_toArray, List.set_cons_zero, List.set_cons_succ]
            refine wpAnyH_take (i := 6) (oi := ⟨_, _, _, _, _, _⟩) (v := ?_) rfl (by kernel_rfl) (by kernel_rfl) (by kernel_rfl) (fun _ _ _ h => h) (Or.inl ⟨by rfl, ?_⟩) (by assumption) ?_
            rotate_left 1
            · intro W' hSw
              obtain ⟨hS1, hS2⟩ := hSw
              go_simp
              try with_reducible rfl
            try simp only [Act.put, List.setIfInBounds_toArray, List.set_cons_zero, List.set_cons_succ]
            refine wpAnyH_ready (rs := [2]) (by kernel_rfl) (by simp) ?_
            refine AllReadyH.cons (o := ⟨_, _, _, _, _, _⟩) rfl (fun K hK => ?_) AllReadyH.nil
            go_simp
            refine (isZero_any V6.drew p'.last).mono ?_
            rintro e V7 ⟨rfl, he⟩
            have HPy : Hid (PlayAt w bp p' mh' ma' ns' V7) := HPx.out.grow (ext_Ext he)
            have hby := HPy.out.blk
            dsimp only
            refine hK.out _ _ ?_ (fun hHeld => ?_)
            · exact ⟨hby, trivial⟩
            clear hK K
            clear he
            try simp only [Act.put, List.setIfInBounds_toArray, List.set_cons_zero, List.set_cons_succ]
            refine wpAnyH_take (i := 7) (oi := ⟨_, _, _, _, _, _⟩) (v := ?_) rfl (by kernel_rfl) (by kernel_rfl) (by kernel_rfl) (fun _ _ _ h => h) (Or.inl ⟨by rfl, ?_⟩) (by assumption) ?_
            rotate_left 1
            · intro W' hSw
              obtain ⟨hS1, hS2⟩ := hSw
              go_simp
              try with_reducible rfl
            try simp only [Act.put, List.setIfInBounds_toArray, List.set_cons_zero, List.set_cons_succ]
            refine wpAnyH_done (by kernel_rfl) ?_ _
            go_wp2_with fail
            refine ⟨rfl, rfl, ?_, ?_⟩
            · refine ⟨rfl, rfl, rfl, rfl, i + 1, p', mh', ma', ns', by omega, ?_, hns3, hg1, hg2, HPy⟩
              show Value.int .i64 _ = _
              go_num
            · show len - (intOf (Value.int .i64 _)).toNat < len - (intOf (F 16)).toNat
              rw [HIV.out]
              simp [intOf]; omega
          · have hlf : Op.bytesLess p'.prev.toList p'.last.toList = false := by simpa using hl
            have hsl : Op.bytesLess s1 s2 = false := hq.trans hlf
            by_cases he : p'.prev = p'.last
            · have hcmp : cmpD p'.prev p'.last = 0 := by unfold cmpD; rw [if_neg hl, if_pos he]
              have hdec : decide (p'.prev = p'.last) = true := decide_eq_true he
              have hsq : (s1 == s2) = true := by rw [beq_iff_eq]; exact hq2.2 he
              clear hq hq2 hl he hlf
              go_wp2_with fail
              refine wp_region_held_drew (S := fun W' => blk W' bp = some p'.enc ∧ True) (by kernel_rfl) ⟨hbx, trivial⟩ (fun hHeld => ?_)
              have HPx : Hid (PlayAt w bp p' mh' ma' ns' W7.drew) := HPx.out.grow (extends_drew (ext_Ext (Ext.refl _)))
              refine wpAnyH_take (i := 0) (oi := ⟨_, _, _, _, _, _⟩) (v := ?_) rfl (by kernel_rfl) (by kernel_rfl) (by kernel_rfl) (fun _ _ _ h => h) (Or.inl ⟨by rfl, ?_⟩) (by assumption) ?_
              rotate_left 1
              · intro W' hSw
                obtain ⟨hS1, hS2⟩ := hSw
                go_simp
                try with_reducible rfl
              try simp only [Act.put, List.setIfInBounds_toArray, List.set_cons_zero, List.set_cons_succ]
              refine wpAnyH_take (i := 1) (oi := ⟨_, _, _, _, _, _⟩) (v := ?_) rfl (by kernel_rfl) (by kernel_rfl) (by kernel_rfl) (fun _ _ _ h => h) (Or.inl ⟨by rfl, ?_⟩) (by assumption) ?_
              rotate_left 1
              · intro W' hSw
                obtain ⟨hS1, hS2⟩ := hSw
                go_simp
                try with_reducible rfl
              try simp only [Act.put, List.setIfInBounds_toArray, List.set_cons_zero, List.set_cons_succ]
              refine wpAnyH_take (i := 3) (oi := ⟨_, _, _, _, _, _⟩) (v := ?_) rfl (by kernel_rfl) (by kernel_rfl) (by kernel_rfl) (fun _ _ _ h => h) (Or.inl ⟨by rfl, ?_⟩) (by assumption) ?_
              rotate_left 1
              · intro W' hSw
                obtain ⟨hS1, hS2⟩ := hSw
                go_simp
                try with_reducible rfl
              try simp only [Act.put, List.setIfInBounds_toArray, List.set_cons_zero, List.set_cons_succ]
              refine wpAnyH_take (i := 4) (oi := ⟨_, _, _, _, _, _⟩) (v := ?_) rfl (by kernel_rfl) (by kernel_rfl) (by kernel_rfl) (fun _ _ _ h => h) (Or.inl ⟨by rfl, ?_⟩) (by assumption) ?_
              rotate_left 1
              · intro W' hSw
                obtain ⟨hS1, hS2⟩ := hSw
                go_simp
                try with_reducible rfl
              try simp only [Act.put, List.setIfInBounds_toArray, List.set_cons_zero, List.set_cons_succ]
              refine wpAnyH_ready (rs := [2]) (by kernel_rfl) (by simp) ?_
              refine AllReadyH.cons (o := ⟨_, _, _, _, _, _⟩) rfl (fun K hK => ?_) AllReadyH.nil
              go_simp
              refine (hex_any W7.drew p'.prev).mono ?_
              rintro e V1 ⟨rfl, he⟩
              rw [← HS1.out]
              have hxx : W7.drew.Extends V1 := ext_Ext he
              have HPy : Hid (PlayAt w bp p' mh' ma' ns' V1) := HPx.out.grow hxx
              have hby := HPy.out.blk
              dsimp only
              refine hK.out _ _ ?_ (fun hHeld => ?_)
              · exact ⟨hby, trivial⟩
              clear hK K
              clear he hxx HPx hbx
              have HPx := HPy
              have hbx := hby
              clear HPy hby
              try simp only [Act.put, List.setIfInBounds_toArray, List.set_cons_zero, List.set_cons_succ]
              refine wpAnyH_ready (rs := [5]) (by kernel_rfl) (by simp) ?_
              refine AllReadyH.cons (o := ⟨_, _, _, _, _, _⟩) rfl (fun K hK => ?_) AllReadyH.nil
              go_simp
              refine (hex_any V1 p'.last).mono ?_
              rintro e V2 ⟨rfl, he⟩
              rw [← HS2.out]
              have hxx : V1.Extends V2 := ext_Ext he
              have HPy : Hid (PlayAt w bp p' mh' ma' ns' V2) := HPx.out.grow hxx
              have hby := HPy.out.blk
              dsimp only
              refine hK.out _ _ ?_ (fun hHeld => ?_)
              · exact ⟨hby, trivial⟩
              clear hK K
              clear he hxx HPx hbx
              have HPx := HPy
              have hbx := hby
              clear HPy hby
              try simp only [Act.put, List.setIfInBounds_toArray, List.set_cons_zero, List.set_cons_succ]
              refine wpAnyH_take (i := 6) (oi := ⟨_, _, _, _, _, _⟩) (v := ?_) rfl (by kernel_rfl) (by kernel_rfl) (by kernel_rfl) (fun _ _ _ h => h) (Or.inl ⟨by rfl, ?_⟩) (by assumption) ?_
              rotate_left 1
              · intro W' hSw
                obtain ⟨hS1, hS2⟩ := hSw
                go_simp
                try with_reducible rfl
              try simp only [Act.put, List.setIfInBounds_toArray, List.set_cons_zero, List.set_cons_succ]
              refine wpAnyH_done (by kernel_rfl) ?_ _
              go_wp2_with fail
              refine wp_region_held_drew (S := fun W' => blk W' bp = some p'.enc ∧ True) (by kernel_rfl) ⟨hbx, trivial⟩ (fun hHeld => ?_)
              have HPx : Hid (PlayAt w bp p' mh' ma' ns' V2.drew) := HPx.out.grow (extends_drew (ext_Ext (Ext.refl _)))
              refine wpAnyH_take (i := 0) (oi := ⟨_, _, _, _, _, _⟩) (v := ?_) rfl (by kernel_rfl) (by kernel_rfl) (by kernel_rfl) (fun _ _ _ h => h) (Or.inl ⟨by rfl, ?_⟩) (by assumption) ?_
              rotate_left 1
              · intro W' hSw
                obtain ⟨hS1, hS2⟩ := hSw
                go_simp
                try with_reducible rfl
              try simp only [Act.put, List.setIfInBounds_toArray, List.set_cons_zero, List.set_cons_succ]
              refine wpAnyH_take (i := 1) (oi := ⟨_, _, _, _, _, _⟩) (v := ?_) rfl (by kernel_rfl) (by kernel_rfl) (by kernel_rfl) (fun _ _ _ h => h) (Or.inl ⟨by rfl, ?_⟩) (by assumption) ?_
              rotate_left 1
              · intro W' hSw
                obtain ⟨hS1, hS2⟩ := hSw
                go_simp
                try with_reducible rfl
              try simp only [Act.put, List.setIfInBounds_toArray, List.set_cons_zero, List.set_cons_succ]
              refine wpAnyH_take (i := 3) (oi := ⟨_, _, _, _, _, _⟩) (v := ?_) rfl (by kernel_rfl) (by kernel_rfl) (by kernel_rfl) (fun _ _ _ h => h) (Or.inl ⟨by rfl, ?_⟩) (by assumption) ?_
              rotate_left 1
              · intro W' hSw
                obtain ⟨hS1, hS2⟩ := hSw
                go_simp
                try with_reducible rfl
              try simp only [Act.put, List.setIfInBounds_toArray, List.set_cons_zero, List.set_cons_succ]
              refine wpAnyH_take (i := 4) (oi := ⟨_, _, _, _, _, _⟩) (v := ?_) rfl (by kernel_rfl) (by kernel_rfl) (by kernel_rfl) (fun _ _ _ h => h) (Or.inl ⟨by rfl, ?_⟩) (by assumption) ?_
              rotate_left 1
              · intro W' hSw
                obtain ⟨hS1, hS2⟩ := hSw
                go_simp
                try with_reducible rfl
              try simp only [Act.put, List.setIfInBounds_toArray, List.set_cons_zero, List.set_cons_succ]
              refine wpAnyH_ready (rs := [2]) (by kernel_rfl) (by simp) ?_
              refine AllReadyH.cons (o := ⟨_, _, _, _, _, _⟩) rfl (fun K hK => ?_) AllReadyH.nil
              go_simp
              refine (hex_any V2.drew p'.prev).mono ?_
              rintro e V3 ⟨rfl, he⟩
              rw [← HS1.out]
              have hxx : V2.drew.Extends V3 := ext_Ext he
              have HPy : Hid (PlayAt w bp p' mh' ma' ns' V3) := HPx.out.grow hxx
              have hby := HPy.out.blk
              dsimp only
              refine hK.out _ _ ?_ (fun hHeld => ?_)
              · exact ⟨hby, trivial⟩
              clear hK K
              clear he hxx HPx hbx
              have HPx := HPy
              have hbx := hby
              clear HPy hby
              try simp only [Act.put, List.setIfInBounds_toArray, List.set_cons_zero, List.set_cons_succ]
              refine wpAnyH_ready (rs := [5]) (by kernel_rfl) (by simp) ?_
              refine AllReadyH.cons (o := ⟨_, _, _, _, _, _⟩) rfl (fun K hK => ?_) AllReadyH.nil
              go_simp
              refine (hex_any V3 p'.last).mono ?_
              rintro e V4 ⟨rfl, he⟩
              rw [← HS2.out]
              have hxx : V3.Extends V4 := ext_Ext he
              have HPy : Hid (PlayAt w bp p' mh' ma' ns' V4) := HPx.out.grow hxx
              have hby := HPy.out.blk
              dsimp only
              refine hK.out _ _ ?_ (fun hHeld => ?_)
              · exact ⟨hby, trivial⟩
              clear hK K
              clear he hxx HPx hbx
              have HPx := HPy
              have hbx := hby
              clear HPy hby
              try simp only [Act.put, List.setIfInBounds_toArray, List.set_cons_zero, List.set_cons_succ]
              refine wpAnyH_take (i := 6) (oi := ⟨_, _, _, _, _, _⟩) (v := ?_) rfl (by kernel_rfl) (by kernel_rfl) (by kernel_rfl) (fun _ _ _ h => h) (Or.inl ⟨by rfl, ?_⟩) (by assumption) ?_
              rotate_left 1
              · intro W' hSw
                obtain ⟨hS1, hS2⟩ := hSw
                go_simp
                try with_reducible rfl
              try simp only [Act.put, List.setIfInBounds_toArray, List.set_cons_zero, List.set_cons_succ]
              refine wpAnyH_done (by kernel_rfl) ?_ _
              go_wp2_with fail
              refine (compare_any V4 p'.prev p'.last).mono ?_
              rintro e V5 ⟨rfl, he⟩
              rw [hcmp]
              have HPy : Hid (PlayAt w bp p' mh' ma' ns' V5) := HPx.out.grow (ext_Ext he)
              have hby := HPy.out.blk
              clear HPx hbx he
              go_wp2_with fail
              refine (equal_any V5 p'.prev p'.last).mono ?_
              rintro e V6 ⟨rfl, he⟩
              rw [hdec]
              have HPx : Hid (PlayAt w bp p' mh' ma' ns' V6) := HPy.out.grow (ext_Ext he)
              have hbx := HPx.out.blk
              clear HPy hby he
              go_wp2_with fail
              refine wp_region_held_drew (S := fun W' => blk W' bp = some p'.enc ∧ True) (by kernel_rfl) ⟨hbx, trivial⟩ (fun hHeld => ?_)
              have HPx : Hid (PlayAt w bp p' mh' ma' ns' V6.drew) := HPx.out.grow (extends_drew (ext_Ext (Ext.refl _)))
              refine wpAnyH_take (i := 0) (oi := ⟨_, _, _, _, _, _⟩) (v := ?_) rfl (by kernel_rfl) (by kernel_rfl) (by kernel_rfl) (fun _ _ _ h => h) (Or.inl ⟨by rfl, ?_⟩) (by assumption) ?_
              rotate_left 1
              · intro W' hSw
                obtain ⟨hS1, hS2⟩ := hSw
                go_simp
                try with_reducible rfl
              try simp only [Act.put, List.setIfInBounds_toArray, List.set_cons_zero, List.set_cons_succ]
              refine wpAnyH_take (i := 1) (oi := ⟨_, _, _, _, _, _⟩) (v := ?_) rfl (by kernel_rfl) (by kernel_rfl) (by kernel_rfl) (fun _ _ _ h => h) (Or.inl ⟨by rfl, ?_⟩) (by assumption) ?_
              rotate_left 1
              · intro W' hSw
                obtain ⟨hS1, hS2⟩ := hSw
                go_simp
                try with_reducible rfl
              try simp only [Act.put, List.setIfInBounds_toArray, List.set_cons_zero, List.set_cons_succ]
              refine wpAnyH_take (i := 3) (oi := ⟨_, _, _, _, _, _⟩) (v := ?_) rfl (by kernel_rfl) (by kernel_rfl) (by kernel_rfl) (fun _ _ _ h => h) (Or.inl ⟨by rfl, ?_⟩) (by assumption) ?_
              rotate_left 1
              · intro W' hSw
                obtain ⟨hS1, hS2⟩ := hSw
                go_simp
                try with_reducible rfl
              try simp only [Act.put, List.setIfInBounds_toArray, List.set_cons_zero, List.set_cons_succ]
              refine wpAnyH_take (i := 4) (oi := ⟨_, _, _, _, _, _⟩) (v := ?_) rfl (by kernel_rfl) (by kernel_rfl) (by kernel_rfl) (fun _ _ _ h => h) (Or.inl ⟨by rfl, ?_⟩) (by assumption) ?_
              rotate_left 1
              · intro W' hSw
                obtain ⟨hS1, hS2⟩ := hSw
                go_simp
                try with_reducible rfl
              try simp only [Act.put, List.setIfInBounds_toArray, List.set_cons_zero, List.set_cons_succ]
              refine wpAnyH_take (i := 5) (oi := ⟨_, _, _, _, _, _⟩) (v := ?_) rfl (by kernel_rfl) (by kernel_rfl) (by kernel_rfl) (fun _ _ _ h => h) (Or.inl ⟨by rfl, ?_⟩) (by assumption) ?_
              rotate_left 1
              · intro W' hSw
                obtain ⟨hS1, hS2⟩ := hSw
                go_simp
                try with_reducible rfl
              try simp only [Act.put, List.setIfInBounds_toArray, List.set_cons_zero, List.set_cons_succ]
              refine wpAnyH_take (i := 6) (oi := ⟨_, _, _, _, _, _⟩) (v := ?_) rfl (by kernel_rfl) (by kernel_rfl) (by kernel_rfl) (fun _ _ _ h => h) (Or.inl ⟨by rfl, ?_⟩) (by assumption) ?_
              rotate_left 1
              · intro W' hSw
                obtain ⟨hS1, hS2⟩ := hSw
                go_simp
                try with_reducible rfl
              try simp only [Act.put, List.setIfInBounds_toArray, List.set_cons_zero, List.set_cons_succ]
              refine wpAnyH_ready (rs := [2]) (by kernel_rfl) (by simp) ?_
              refine AllReadyH.cons (o := ⟨_, _, _, _, _, _⟩) rfl (fun K hK => ?_) AllReadyH.nil
              go_simp
              refine (isZero_any V6.drew p'.last).mono ?_
              rintro e V7 ⟨rfl, he⟩
              have HPy : Hid (PlayAt w bp p' mh' ma' ns' V7) := HPx.out.grow (ext_Ext he)
              have hby := HPy.out.blk
              dsimp only
              refine hK.out _ _ ?_ (fun hHeld => ?_)
              · exact ⟨hby, trivial⟩
              clear hK K
              clear he
              try simp only [Act.put, List.setIfInBounds_toArray, List.set_cons_zero, List.set_cons_succ]
              refine wpAnyH_take (i := 7) (oi := ⟨_, _, _, _, _, _⟩) (v := ?_) rfl (by kernel_rfl) (by kernel_rfl) (by kernel_rfl) (fun _ _ _ h => h) (Or.inl ⟨by rfl, ?_⟩) (by assumption) ?_
              rotate_left 1
              · intro W' hSw
                obtain ⟨hS1, hS2⟩ := hSw
                go_simp
                try with_reducible rfl
              try simp only [Act.put, List.setIfInBounds_toArray, List.set_cons_zero, List.set_cons_succ]
              refine wpAnyH_done (by kernel_rfl) ?_ _
              go_wp2_with fail
              refine ⟨rfl, rfl, ?_, ?_⟩
              · refine ⟨rfl, rfl, rfl, rfl, i + 1, p', mh', ma', ns', by omega, ?_, hns3, hg1, hg2, HPy⟩
                show Value.int .i64 _ = _
                go_num
              · show len - (intOf (Value.int .i64 _)).toNat < len - (intOf (F 16)).toNat
                rw [HIV.out]
                simp [intOf]; omega
            · have hcmp : cmpD p'.prev p'.last = 1 := by unfold cmpD; rw [if_neg hl, if_neg he]
              have hdec : decide (p'.prev = p'.last) = false := decide_eq_false he
              have hsq : (s1 == s2) = false := by rw [beq_eq_false_iff_ne]; exact fun e => he (hq2.1 e)
              clear hq hq2 hl he hlf
              go_wp2_with fail
              refine wp_region_held_drew (S := fun W' => blk W' bp = some p'.enc ∧ True) (by kernel_rfl) ⟨hbx, trivial⟩ (fun hHeld => ?_)
              have HPx : Hid (PlayAt w bp p' mh' ma' ns' W7.drew) := HPx.out.grow (extends_drew (ext_Ext (Ext.refl _)))
              refine wpAnyH_take (i := 0) (oi := ⟨_, _, _, _, _, _⟩) (v := ?_) rfl (by kernel_rfl) (by kernel_rfl) (by kernel_rfl) (fun _ _ _ h => h) (Or.inl ⟨by rfl, ?_⟩) (by assumption) ?_
              rotate_left 1
              · intro W' hSw
                obtain ⟨hS1, hS2⟩ := hSw
                go_simp
                try with_reducible rfl
              try simp only [Act.put, List.setIfInBounds_toArray, List.set_cons_zero, List.set_cons_succ]
              refine wpAnyH_take (i := 1) (oi := ⟨_, _, _, _, _, _⟩) (v := ?_) rfl (by kernel_rfl) (by kernel_rfl) (by kernel_rfl) (fun _ _ _ h => h) (Or.inl ⟨by rfl, ?_⟩) (by assumption) ?_
              rotate_left 1
              · intro W' hSw
                obtain ⟨hS1, hS2⟩ := hSw
                go_simp
                try with_reducible rfl
              try simp only [Act.put, List.setIfInBounds_toArray, List.set_cons_zero, List.set_cons_succ]
              refine wpAnyH_take (i := 3) (oi := ⟨_, _, _, _, _, _⟩) (v := ?_) rfl (by kernel_rfl) (by kernel_rfl) (by kernel_rfl) (fun _ _ _ h => h) (Or.inl ⟨by rfl, ?_⟩) (by assumption) ?_
              rotate_left 1
              · intro W' hSw
                obtain ⟨hS1, hS2⟩ := hSw
                go_simp
                try with_reducible rfl
              try simp only [Act.put, List.setIfInBounds_toArray, List.set_cons_zero, List.set_cons_succ]
              refine wpAnyH_take (i := 4) (oi := ⟨_, _, _, _, _, _⟩) (v := ?_) rfl (by kernel_rfl) (by kernel_rfl) (by kernel_rfl) (fun _ _ _ h => h) (Or.inl ⟨by rfl, ?_⟩) (by assumption) ?_
              rotate_left 1
              · intro W' hSw
                obtain ⟨hS1, hS2⟩ := hSw
                go_simp
                try with_reducible rfl
              try simp only [Act.put, List.setIfInBounds_toArray, List.set_cons_zero, List.set_cons_succ]
              refine wpAnyH_ready (rs := [2]) (by kernel_rfl) (by simp) ?_
              refine AllReadyH.cons (o := ⟨_, _, _, _, _, _⟩) rfl (fun K hK => ?_) AllReadyH.nil
              go_simp
              refine (hex_any W7.drew p'.prev).mono ?_
              rintro e V1 ⟨rfl, he⟩
              rw [← HS1.out]
              have hxx : W7.drew.Extends V1 := ext_Ext he
              have HPy : Hid (PlayAt w bp p' mh' ma' ns' V1) := HPx.out.grow hxx
              have hby := HPy.out.blk
              dsimp only
              refine hK.out _ _ ?_ (fun hHeld => ?_)
              · exact ⟨hby, trivial⟩
              clear hK K
              clear he hxx HPx hbx
              have HPx := HPy
              have hbx := hby
              clear HPy hby
              try simp only [Act.put, List.setIfInBounds_toArray, List.set_cons_zero, List.set_cons_succ]
              refine wpAnyH_ready (rs := [5]) (by kernel_rfl) (by simp) ?_
              refine AllReadyH.cons (o := ⟨_, _, _, _, _, _⟩) rfl (fun K hK => ?_) AllReadyH.nil
              go_simp
              refine (hex_any V1 p'.last).mono ?_
              rintro e V2 ⟨rfl, he⟩
              rw [← HS2.out]
              have hxx : V1.Extends V2 := ext_Ext he
              have HPy : Hid (PlayAt w bp p' mh' ma' ns' V2) := HPx.out.grow hxx
              have hby := HPy.out.blk
              dsimp only
              refine hK.out _ _ ?_ (fun hHeld => ?_)
              · exact ⟨hby, trivial⟩
              clear hK K
              clear he hxx HPx hbx
              have HPx := HPy
              have hbx := hby
              clear HPy hby
              try simp only [Act.put, List.setIfInBounds_toArray, List.set_cons_zero, List.set_cons_succ]
              refine wpAnyH_take (i := 6) (oi := ⟨_, _, _, _, _, _⟩) (v := ?_) rfl (by kernel_rfl) (by kernel_rfl) (by kernel_rfl) (fun _ _ _ h => h) (Or.inl ⟨by rfl, ?_⟩) (by assumption) ?_
              rotate_left 1
              · intro W' hSw
                obtain ⟨hS1, hS2⟩ := hSw
                go_simp
                try with_reducible rfl
              try simp only [Act.put, List.setIfInBounds_toArray, List.set_cons_zero, List.set_cons_succ]
              refine wpAnyH_done (by kernel_rfl) ?_ _
              go_wp2_with fail
              refine wp_region_held_drew (S := fun W' => blk W' bp = some p'.enc ∧ True) (by kernel_rfl) ⟨hbx, trivial⟩ (fun hHeld => ?_)
              have HPx : Hid (PlayAt w bp p' mh' ma' ns' V2.drew) := HPx.out.grow (extends_drew (ext_Ext (Ext.refl _)))
              refine wpAnyH_take (i := 0) (oi := ⟨_, _, _, _, _, _⟩) (v := ?_) rfl (by kernel_rfl) (by kernel_rfl) (by kernel_rfl) (fun _ _ _ h => h) (Or.inl ⟨by rfl, ?_⟩) (by assumption) ?_
              rotate_left 1
              · intro W' hSw
                obtain ⟨hS1, hS2⟩ := hSw
                go_simp
                try with_reducible rfl
              try simp only [Act.put, List.setIfInBounds_toArray, List.set_cons_zero, List.set_cons_succ]
              refine wpAnyH_take (i := 1) (oi := ⟨_, _, _, _, _, _⟩) (v := ?_) rfl (by kernel_rfl) (by kernel_rfl) (by kernel_rfl) (fun _ _ _ h => h) (Or.inl ⟨by rfl, ?_⟩) (by assumption) ?_
              rotate_left 1
              · intro W' hSw
                obtain ⟨hS1, hS2⟩ := hSw
                go_simp
                try with_reducible rfl
              try simp only [Act.put, List.setIfInBounds_toArray, List.set_cons_zero, List.set_cons_succ]
              refine wpAnyH_take (i := 3) (oi := ⟨_, _, _, _, _, _⟩) (v := ?_) rfl (by kernel_rfl) (by kernel_rfl) (by kernel_rfl) (fun _ _ _ h => h) (Or.inl ⟨by rfl, ?_⟩) (by assumption) ?_
              rotate_left 1
              · intro W' hSw
                obtain ⟨hS1, hS2⟩ := hSw
                go_simp
                try with_reducible rfl
              try simp only [Act.put, List.setIfInBounds_toArray, List.set_cons_zero, List.set_cons_succ]
              refine wpAnyH_take (i := 4) (oi := ⟨_, _, _, _, _, _⟩) (v := ?_) rfl (by kernel_rfl) (by kernel_rfl) (by kernel_rfl) (fun _ _ _ h => h) (Or.inl ⟨by rfl, ?_⟩) (by assumption) ?_
              rotate_left 1
              · intro W' hSw
                obtain ⟨hS1, hS2⟩ := hSw
                go_simp
                try with_reducible rfl
              try simp only [Act.put, List.setIfInBounds_toArray, List.set_cons_zero, List.set_cons_succ]
              refine wpAnyH_ready (rs := [2]) (by kernel_rfl) (by simp) ?_
              refine AllReadyH.cons (o := ⟨_, _, _, _, _, _⟩) rfl (fun K hK => ?_) AllReadyH.nil
              go_simp
              refine (hex_any V2.drew p'.prev).mono ?_
              rintro e V3 ⟨rfl, he⟩
              rw [← HS1.out]
              have hxx : V2.drew.Extends V3 := ext_Ext he
              have HPy : Hid (PlayAt w bp p' mh' ma' ns' V3) := HPx.out.grow hxx
              have hby := HPy.out.blk
              dsimp only
              refine hK.out _ _ ?_ (fun hHeld => ?_)
              · exact ⟨hby, trivial⟩
              clear hK K
              clear he hxx HPx hbx
              have HPx := HPy
              have hbx := hby
              clear HPy hby
              try simp only [Act.put, List.setIfInBounds_toArray, List.set_cons_zero, List.set_cons_succ]
              refine wpAnyH_ready (rs := [5]) (by kernel_rfl) (by simp) ?_
              refine AllReadyH.cons (o := ⟨_, _, _, _, _, _⟩) rfl (fun K hK => ?_) AllReadyH.nil
              go_simp
              refine (hex_any V3 p'.last).mono ?_
              rintro e V4 ⟨rfl, he⟩
              rw [← HS2.out]
              have hxx : V3.Extends V4 := ext_Ext he
              have HPy : Hid (PlayAt w bp p' mh' ma' ns' V4) := HPx.out.grow hxx
              have hby := HPy.out.blk
              dsimp only
              refine hK.out _ _ ?_ (fun hHeld => ?_)
              · exact ⟨hby, trivial⟩
              clear hK K
              clear he hxx HPx hbx
              have HPx := HPy
              have hbx := hby
              clear HPy hby
              try simp only [Act.put, List.setIfInBounds_toArray, List.set_cons_zero, List.set_cons_succ]
              refine wpAnyH_take (i := 6) (oi := ⟨_, _, _, _, _, _⟩) (v := ?_) rfl (by kernel_rfl) (by kernel_rfl) (by kernel_rfl) (fun _ _ _ h => h) (Or.inl ⟨by rfl, ?_⟩) (by assumption) ?_
              rotate_left 1
              · intro W' hSw
                obtain ⟨hS1, hS2⟩ := hSw
                go_simp
                try with_reducible rfl
              try simp only [Act.put, List.setIfInBounds_toArray, List.set_cons_zero, List.set_cons_succ]
              refine wpAnyH_done (by kernel_rfl) ?_ _
              go_wp2_with fail
              refine (compare_any V4 p'.prev p'.last).mono ?_
              rintro e V5 ⟨rfl, he⟩
              rw [hcmp]
              have HPy : Hid (PlayAt w bp p' mh' ma' ns' V5) := HPx.out.grow (ext_Ext he)
              have hby := HPy.out.blk
              clear HPx hbx he
              go_wp2_with fail
              refine (equal_any V5 p'.prev p'.last).mono ?_
              rintro e V6 ⟨rfl, he⟩
              rw [hdec]
              have HPx : Hid (PlayAt w bp p' mh' ma' ns' V6) := HPy.out.grow (ext_Ext he)
              have hbx := HPx.out.blk
              clear HPy hby he
              go_wp2_with fail
              refine wp_region_held_drew (S := fun W' => blk W' bp = some p'.enc ∧ True) (by kernel_rfl) ⟨hbx, trivial⟩ (fun hHeld => ?_)
              have HPx : Hid (PlayAt w bp p' mh' ma' ns' V6.drew) := HPx.out.grow (extends_drew (ext_Ext (Ext.refl _)))
              refine wpAnyH_take (i := 0) (oi := ⟨_, _, _, _, _, _⟩) (v := ?_) rfl (by kernel_rfl) (by kernel_rfl) (by kernel_rfl) (fun _ _ _ h => h) (Or.inl ⟨by rfl, ?_⟩) (by assumption) ?_
              rotate_left 1
              · intro W' hSw
                obtain ⟨hS1, hS2⟩ := hSw
                go_simp
                try with_reducible rfl
              try simp only [Act.put, List.setIfInBounds_toArray, List.set_cons_zero, List.set_cons_succ]
              refine wpAnyH_take (i := 1) (oi := ⟨_, _, _, _, _, _⟩) (v := ?_) rfl (by kernel_rfl) (by kernel_rfl) (by kernel_rfl) (fun _ _ _ h => h) (Or.inl ⟨by rfl, ?_⟩) (by assumption) ?_
              rotate_left 1
              · intro W' hSw
                obtain ⟨hS1, hS2⟩ := hSw
                go_simp
                try with_reducible rfl
              try simp only [Act.put, List.setIfInBounds_toArray, List.set_cons_zero, List.set_cons_succ]
              refine wpAnyH_take (i := 3) (oi := ⟨_, _, _, _, _, _⟩) (v := ?_) rfl (by kernel_rfl) (by kernel_rfl) (by kernel_rfl) (fun _ _ _ h => h) (Or.inl ⟨by rfl, ?_⟩) (by assumption) ?_
              rotate_left 1
              · intro W' hSw
                obtain ⟨hS1, hS2⟩ := hSw
                go_simp
                try with_reducible rfl
              try simp only [Act.put, List.setIfInBounds_toArray, List.set_cons_zero, List.set_cons_succ]
              refine wpAnyH_take (i := 4) (oi := ⟨_, _, _, _, _, _⟩) (v := ?_) rfl (by kernel_rfl) (by kernel_rfl) (by kernel_rfl) (fun _ _ _ h => h) (Or.inl ⟨by rfl, ?_⟩) (by assumption) ?_
              rotate_left 1
              · intro W' hSw
                obtain ⟨hS1, hS2⟩ := hSw
                go_simp
                try with_reducible rfl
              try simp only [Act.put, List.setIfInBounds_toArray, List.set_cons_zero, List.set_cons_succ]
              refine wpAnyH_take (i := 5) (oi := ⟨_, _, _, _, _, _⟩) (v := ?_) rfl (by kernel_rfl) (by kernel_rfl) (by kernel_rfl) (fun _ _ _ h => h) (Or.inl ⟨by rfl, ?_⟩) (by assumption) ?_
              rotate_left 1
              · intro W' hSw
                obtain ⟨hS1, hS2⟩ := hSw
                go_simp
                try with_reducible rfl
              try simp only [Act.put, List.setIfInBounds_toArray, List.set_cons_zero, List.set_cons_succ]
              refine wpAnyH_take (i := 6) (oi := ⟨_, _, _, _, _, _⟩) (v := ?_) rfl (by kernel_rfl) (by kernel_rfl) (by kernel_rfl) (fun _ _ _ h => h) (Or.inl ⟨by rfl, ?_⟩) (by assumption) ?_
              rotate_left 1
              · intro W' hSw
                obtain ⟨hS1, hS2⟩ := hSw
                go_simp
                try with_reducible rfl
              try simp only [Act.put, List.setIfInBounds_toArray, List.set_cons_zero, List.set_cons_succ]
              refine wpAnyH_ready (rs := [2]) (by kernel_rfl) (by simp) ?_
              refine AllReadyH.cons (o := ⟨_, _, _, _, _, _⟩) rfl (fun K hK => ?_) AllReadyH.nil
              go_simp
              refine (isZero_any V6.drew p'.last).mono ?_
              rintro e V7 ⟨rfl, he⟩
              have HPy : Hid (PlayAt w bp p' mh' ma' ns' V7) := HPx.out.grow (ext_Ext he)
              have hby := HPy.out.blk
              dsimp only
              refine hK.out _ _ ?_ (fun hHeld => ?_)
              · exact ⟨hby, trivial⟩
              clear hK K
              clear he
              try simp only [Act.put, List.setIfInBounds_toArray, List.set_cons_zero, List.set_cons_succ]
              refine wpAnyH_take (i := 7) (oi := ⟨_, _, _, _, _, _⟩) (v := ?_) rfl (by kernel_rfl) (by kernel_rfl) (by kernel_rfl) (fun _ _ _ h => h) (Or.inl ⟨by rfl, ?_⟩) (by assumption) ?_
              rotate_left 1
              · intro W' hSw
                obtain ⟨hS1, hS2⟩ := hSw
                go_simp
                try with_reducible rfl
              try simp only [Act.put, List.setIfInBounds_toArray, List.set_cons_zero, List.set_cons_succ]
              refine wpAnyH_done (by kernel_rfl) ?_ _
              go_wp2_with fail
              refine ⟨rfl, rfl, ?_, ?_⟩
              · refine ⟨rfl, rfl, rfl, rfl, i + 1, p', mh', ma', ns', by omega, ?_, hns3, hg1, hg2, HPy⟩
                show Value.int .i64 _ = _
                go_num
              · show len - (intOf (Value.int .i64 _)).toNat < len - (intOf (F 16)).toNat
                rw [HIV.out]
                simp [intOf]; omega
      · have hkd : decide (op.kind = 13) = false := decide_eq_false hk
        have hkb : (op.kind == 13) = false := by simp [hk]
        refine wp_region_held_drew (S := fun W' => (blk W' bo = some op.enc ∧ blk W' ba = some ans.enc) ∧ True) (by kernel_rfl) ⟨⟨ho6, ha6⟩, trivial⟩ (fun hHeld => ?_)
        refine wpAnyH_take (i := 0) (oi := ⟨_, _, _, _, _, _⟩) (v := ?_) rfl (by kernel_rfl) (by kernel_rfl) (by kernel_rfl) (fun _ _ _ h => h) (Or.inl ⟨by rfl, ?_⟩) (by assumption) ?_
        rotate_left 1
        · intro W' hSw
          obtain ⟨⟨hS1, hS3⟩, hS2⟩ := hSw
          go_simp
          try with_reducible rfl
        try simp only [Act.put, List.setIfInBounds_toArray, List.set_cons_zero, List.set_cons_succ]
        refine wpAnyH_take (i := 1) (oi := ⟨_, _, _, _, _, _⟩) (v := ?_) rfl (by kernel_rfl) (by kernel_rfl) (by kernel_rfl) (fun _ _ _ h => h) (Or.inl ⟨by rfl, ?_⟩) (by assumption) ?_
        rotate_left 1
        · intro W' hSw
          obtain ⟨⟨hS1, hS3⟩, hS2⟩ := hSw
          go_simp
          try with_reducible rfl
        try simp only [Act.put, List.setIfInBounds_toArray, List.set_cons_zero, List.set_cons_succ]
        refine wpAnyH_take (i := 2) (oi := ⟨_, _, _, _, _, _⟩) (v := ?_) rfl (by kernel_rfl) (by kernel_rfl) (by kernel_rfl) (fun _ _ _ h => h) (Or.inl ⟨by rfl, ?_⟩) (by assumption) ?_
        rotate_left 1
        · intro W' hSw
          obtain ⟨⟨hS1, hS3⟩, hS2⟩ := hSw
          go_simp
          try with_reducible rfl
        try simp only [Act.put, List.setIfInBounds_toArray, List.set_cons_zero, List.set_cons_succ]
        refine wpAnyH_take (i := 3) (oi := ⟨_, _, _, _, _, _⟩) (v := ?_) rfl (by kernel_rfl) (by kernel_rfl) (by kernel_rfl) (fun _ _ _ h => h) (Or.inl ⟨by rfl, ?_⟩) (by assumption) ?_
        rotate_left 1
        · intro W' hSw
          obtain ⟨⟨hS1, hS3⟩, hS2⟩ := hSw
          go_simp
          try with_reducible rfl
        try simp only [Act.put, List.setIfInBounds_toArray, List.set_cons_zero, List.set_cons_succ]
        refine wpAnyH_take (i := 4) (oi := ⟨_, _, _, _, _, _⟩) (v := undef) rfl (by kernel_rfl) (by kernel_rfl) (by kernel_rfl) (fun _ _ _ h => h) (Or.inr ⟨by rfl, rfl⟩) (by assumption) ?_
        try simp only [Act.put, List.setIfInBounds_toArray, List.set_cons_zero, List.set_cons_succ]
        refine wpAnyH_take (i := 5) (oi := ⟨_, _, _, _, _, _⟩) (v := undef) rfl (by kernel_rfl) (by kernel_rfl) (by kernel_rfl) (fun _ _ _ h => h) (Or.inr ⟨by rfl, rfl⟩) (by assumption) ?_
        try simp only [Act.put, List.setIfInBounds_toArray, List.set_cons_zero, List.set_cons_succ]
        refine wpAnyH_take (i := 6) (oi := ⟨_, _, _, _, _, _⟩) (v := undef) rfl (by kernel_rfl) (by kernel_rfl) (by kernel_rfl) (fun _ _ _ h => h) (Or.inr ⟨by rfl, rfl⟩) (by assumption) ?_
        try simp only [Act.put, List.setIfInBounds_toArray, List.set_cons_zero, List.set_cons_succ]
        refine wpAnyH_take (i := 7) (oi := ⟨_, _, _, _, _, _⟩) (v := ?_) rfl (by kernel_rfl) (by kernel_rfl) (by kernel_rfl) (fun _ _ _ h => h) (Or.inl ⟨by rfl, ?_⟩) (by assumption) ?_
        rotate_left 1
        · intro W' hSw
          obtain ⟨hS1, hS2⟩ := hSw
          go_simp
          try with_reducible rfl
        try simp only [Act.put, List.setIfInBounds_toArray, List.set_cons_zero, List.set_cons_succ]
        refine wpAnyH_take (i := 8) (oi := ⟨_, _, _, _, _, _⟩) (v := ?_) rfl (by kernel_rfl) (by kernel_rfl) (by kernel_rfl) (fun _ _ _ h => h) (Or.inl ⟨by rfl, ?_⟩) (by assumption) ?_
        rotate_left 1
        · intro W' hSw
          obtain ⟨hS1, hS2⟩ := hSw
          go_simp
          try with_reducible rfl
        try simp only [Act.put, List.setIfInBounds_toArray, List.set_cons_zero, List.set_cons_succ]
        refine wpAnyH_take (i := 9) (oi := ⟨_, _, _, _, _, _⟩) (v := undef) rfl (by kernel_rfl) (by kernel_rfl) (by kernel_rfl) (fun _ _ _ h => h) (Or.inr ⟨by rfl, rfl⟩) (by assumption) ?_
        try simp only [Act.put, List.setIfInBounds_toArray, List.set_cons_zero, List.set_cons_succ]
        refine wpAnyH_take (i := 10) (oi := ⟨_, _, _, _, _, _⟩) (v := undef) rfl (by kernel_rfl) (by kernel_rfl) (by kernel_rfl) (fun _ _ _ h => h) (Or.inr ⟨by rfl, rfl⟩) (by assumption) ?_
        try simp only [Act.put, List.setIfInBounds_toArray, List.set_cons_zero, List.set_cons_succ]
        refine wpAnyH_take (i := 11) (oi := ⟨_, _, _, _, _, _⟩) (v := undef) rfl (by kernel_rfl) (by kernel_rfl) (by kernel_rfl) (fun _ _ _ h => h) (Or.inr ⟨by rfl, rfl⟩) (by assumption) ?_
        try simp only [Act.put, List.setIfInBounds_toArray, List.set_cons_zero, List.set_cons_succ]
        refine wpAnyH_take (i := 12) (oi := ⟨_, _, _, _, _, _⟩) (v := undef) rfl (by kernel_rfl) (by kernel_rfl) (by kernel_rfl) (fun _ _ _ h => h) (Or.inr ⟨by rfl, rfl⟩) (by assumption) ?_
        try simp only [Act.put, List.setIfInBounds_toArray, List.set_cons_zero, List.set_cons_succ]
        refine wpAnyH_take (i := 13) (oi := ⟨_, _, _, _, _, _⟩) (v := undef) rfl (by kernel_rfl) (by kernel_rfl) (by kernel_rfl) (fun _ _ _ h => h) (Or.inr ⟨by rfl, rfl⟩) (by assumption) ?_
        try simp only [Act.put, List.setIfInBounds_toArray, List.set_cons_zero, List.set_cons_succ]
        refine wpAnyH_take (i := 14) (oi := ⟨_, _, _, _, _, _⟩) (v := undef) rfl (by kernel_rfl) (by kernel_rfl) (by kernel_rfl) (fun _ _ _ h => h) (Or.inr ⟨by rfl, rfl⟩) (by assumption) ?_
        try simp only [Act.put, List.setIfInBounds_toArray, List.set_cons_zero, List.set_cons_succ]
        refine wpAnyH_take (i := 15) (oi := ⟨_, _, _, _, _, _⟩) (v := undef) rfl (by kernel_rfl) (by kernel_rfl) (by kernel_rfl) (fun _ _ _ h => h) (Or.inr ⟨by rfl, rfl⟩) (by assumption) ?_
        try simp only [Act.put, List.setIfInBounds_toArray, List.set_cons_zero, List.set_cons_succ]
        refine wpAnyH_take (i := 16) (oi := ⟨_, _, _, _, _, _⟩) (v := ?_) rfl (by kernel_rfl) (by kernel_rfl) (by kernel_rfl) (fun _ _ _ h => h) (Or.inl ⟨by rfl, ?_⟩) (by assumption) ?_
        rotate_left 1
        · intro W' hSw
          obtain ⟨hS1, hS2⟩ := hSw
          go_simp
          try with_reducible rfl
        try simp only [Act.put, List.setIfInBounds_toArray, List.set_cons_zero, List.set_cons_succ]
        refine wpAnyH_done (by kernel_rfl) ?_ _
        go_upto_region 14 with fail
        refine wp_world (fun W7 => blk W7 bp = some p'.enc ∧ Hid (PlayAt w bp p' mh' ma' ns' W7)) ?_ ?_
        · exact ⟨hb6, HP6.out.grow (extends_drew (ext_Ext (Ext.refl _)))⟩
        clear hb6 ho6 ha6 HP6 hk
        rintro W7 ⟨hbx, HPx⟩
        obtain ⟨s1, hs1⟩ : ∃ s1, s1 = hexOf p'.prev := ⟨_, rfl⟩
        obtain ⟨s2, hs2⟩ : ∃ s2, s2 = hexOf p'.last := ⟨_, rfl⟩
        have hq : Op.bytesLess s1 s2 = Op.bytesLess p'.prev.toList p'.last.toList := by rw [hs1, hs2, hexOf_less]
        have hq2 : s1 = s2 ↔ p'.prev = p'.last := by rw [hs1, hs2]; exact ⟨hexOf_inj, fun h => by rw [h]⟩
        have HS1 : Hid (s1 = hexOf p'.prev) := hs1
        have HS2 : Hid (s2 = hexOf p'.last) := hs2
        clear hs1 hs2
        by_cases hl : Op.bytesLess p'.prev.toList p'.last.toList = true
        · have hcmp : cmpD p'.prev p'.last = -1 := by unfold cmpD; rw [if_pos hl]
          have hne : ¬ p'.prev = p'.last := fun e => by rw [e, less_irrefl] at hl; exact absurd hl (by decide)
          have hdec : decide (p'.prev = p'.last) = false := decide_eq_false hne
          have hsl : Op.bytesLess s1 s2 = true := hq.trans hl
          have hsq : (s1 == s2) = false := by rw [beq_eq_false_iff_ne]; exact fun e => hne (hq2.1 e)
          clear hq hq2 hl hne
          go_wp2_with fail
          refine wp_region_held_drew (S := fun W' => blk W' bp = some p'.enc ∧ True) (by kernel_rfl) ⟨hbx, trivial⟩ (fun hHeld => ?_)
          have HPx : Hid (PlayAt w bp p' mh' ma' ns' W7.drew) := HPx.out.grow (extends_drew (ext_Ext (Ext.refl _)))
          refine wpAnyH_take (i := 0) (oi := ⟨_, _, _, _, _, _⟩) (v := ?_) rfl (by kernel_rfl) (by kernel_rfl) (by kernel_rfl) (fun _ _ _ h => h) (Or.inl ⟨by rfl, ?_⟩) (by assumption) ?_
          rotate_left 1
          · intro W' hSw
            obtain ⟨hS1, hS2⟩ := hSw
            go_simp
            try with_reducible rfl
          try simp only [Act.put, List.setIfInBounds_toArray, List.set_cons_zero, List.set_cons_succ]
          refine wpAnyH_take (i := 1) (oi := ⟨_, _, _, _, _, _⟩) (v := ?_) rfl (by kernel_rfl) (by kernel_rfl) (by kernel_rfl) (fun _ _ _ h => h) (Or.inl ⟨by rfl, ?_⟩) (by assumption) ?_
          rotate_left 1
          · intro W' hSw
            obtain ⟨hS1, hS2⟩ := hSw
            go_simp
            try with_reducible rfl
          try simp only [Act.put, List.setIfInBounds_toArray, List.set_cons_zero, List.set_cons_succ]
          refine wpAnyH_take (i := 3) (oi := ⟨_, _, _, _, _, _⟩) (v := ?_) rfl (by kernel_rfl) (by kernel_rfl) (by kernel_rfl) (fun _ _ _ h => h) (Or.inl ⟨by rfl, ?_⟩) (by assumption) ?_
          rotate_left 1
          · intro W' hSw
            obtain ⟨hS1, hS2⟩ := hSw
            go_simp
            try with_reducible rfl
          try simp only [Act.put, List.setIfInBounds_toArray, List.set_cons_zero, List.set_cons_succ]
          refine wpAnyH_take (i := 4) (oi := ⟨_, _, _, _, _, _⟩) (v := ?_) rfl (by kernel_rfl) (by kernel_rfl) (by kernel_rfl) (fun _ _ _ h => h) (Or.inl ⟨by rfl, ?_⟩) (by assumption) ?_
          rotate_left 1
          · intro W' hSw
            obtain ⟨hS1, hS2⟩ := hSw
            go_simp
            try with_reducible rfl
          try simp only [Act.put, List.setIfInBounds_toArray, List.set_cons_zero, List.set_cons_succ]
          refine wpAnyH_ready (rs := [2]) (by kernel_rfl) (by simp) ?_
          refine AllReadyH.cons (o := ⟨_, _, _, _, _, _⟩) rfl (fun K hK => ?_) AllReadyH.nil
          go_simp
          refine (hex_any W7.drew p'.prev).mono ?_
          rintro e V1 ⟨rfl, he⟩
          rw [← HS1.out]
          have hxx : W7.drew.Extends V1 := ext_Ext he
          have HPy : Hid (PlayAt w bp p' mh' ma' ns' V1) := HPx.out.grow hxx
          have hby := HPy.out.blk
          dsimp only
          refine hK.out _ _ ?_ (fun hHeld => ?_)
          · exact ⟨hby, trivial⟩
          clear hK K
          clear he hxx HPx hbx
          have HPx := HPy
          have hbx := hby
          clear HPy hby
          try simp only [Act.put, List.setIfInBounds_toArray, List.set_cons_zero, List.set_cons_succ]
          refine wpAnyH_ready (rs := [5]) (by kernel_rfl) (by simp) ?_
          refine AllReadyH.cons (o := ⟨_, _, _, _, _, _⟩) rfl (fun K hK => ?_) AllReadyH.nil
          go_simp
          refine (hex_any V1 p'.last).mono ?_
          rintro e V2 ⟨rfl, he⟩
          rw [← HS2.out]
          have hxx : V1.Extends V2 := ext_Ext he
          have HPy : Hid (PlayAt w bp p' mh' ma' ns' V2) := HPx.out.grow hxx
          have hby := HPy.out.blk
          dsimp only
          refine hK.out _ _ ?_ (fun hHeld => ?_)
          · exact ⟨hby, trivial⟩
          clear hK K
          clear he hxx HPx hbx
          have HPx := HPy
          have hbx := hby
          clear HPy hby
          try simp only [Act.put, List.setIfInBounds_toArray, List.set_cons_zero, List.set_cons_succ]
          refine wpAnyH_take (i := 6) (oi := ⟨_, _, _, _, _, _⟩) (v := ?_) rfl (by kernel_rfl) (by kernel_rfl) (by kernel_rfl) (fun _ _ _ h => h) (Or.inl ⟨by rfl, ?_⟩) (by assumption) ?_
          rotate_left 1
          · intro W' hSw
            obtain ⟨hS1, hS2⟩ := hSw
            go_simp
            try with_reducible rfl
          try simp only [Act.put, List.setIfInBounds_toArray, List.set_cons_zero, List.set_cons_succ]
          refine wpAnyH_done (by kernel_rfl) ?_ _
          go_wp2_with fail
          refine wp_region_held_drew (S := fun W' => blk W' bp = some p'.enc ∧ True) (by kernel_rfl) ⟨hbx, trivial⟩ (fun hHeld => ?_)
          have HPx : Hid (PlayAt w bp p' mh' ma' ns' V2.drew) := HPx.out.grow (extends_drew (ext_Ext (Ext.refl _)))
          refine wpAnyH_take (i := 0) (oi := ⟨_, _, _, _, _, _⟩) (v := ?_) rfl (by kernel_rfl) (by kernel_rfl) (by kernel_rfl) (fun _ _ _ h => h) (Or.inl ⟨by rfl, ?_⟩) (by assumption) ?_
          rotate_left 1
          · intro W' hSw
            obtain ⟨hS1, hS2⟩ := hSw
            go_simp
            try with_reducible rfl
          try simp only [Act.put, List.setIfInBounds_toArray, List.set_cons_zero, List.set_cons_succ]
          refine wpAnyH_take (i := 1) (oi := ⟨_, _, _, _, _, _⟩) (v := ?_) rfl (by kernel_rfl) (by kernel_rfl) (by kernel_rfl) (fun _ _ _ h => h) (Or.inl ⟨by rfl, ?_⟩) (by assumption) ?_
          rotate_left 1
          · intro W' hSw
            obtain ⟨hS1, hS2⟩ := hSw
            go_simp
            try with_reducible rfl
          try simp only [Act.put, List.setIfInBounds_toArray, List.set_cons_zero, List.set_cons_succ]
          refine wpAnyH_take (i := 3) (oi := ⟨_, _, _, _, _, _⟩) (v := ?_) rfl (by kernel_rfl) (by kernel_rfl) (by kernel_rfl) (fun _ _ _ h => h) (Or.inl ⟨by rfl, ?_⟩) (by assumption) ?_
          rotate_left 1
          · intro W' hSw
            obtain ⟨hS1, hS2⟩ := hSw
            go_simp
            try with_reducible rfl
          try simp only [Act.put, List.setIfInBounds_toArray, List.set_cons_zero, List.set_cons_succ]
          refine wpAnyH_take (i := 4) (oi := ⟨_, _, _, _, _, _⟩) (v := ?_) rfl (by kernel_rfl) (by kernel_rfl) (by kernel_rfl) (fun _ _ _ h => h) (Or.inl ⟨by rfl, ?_⟩) (by assumption) ?_
          rotate_left 1
          · intro W' hSw
            obtain ⟨hS1, hS2⟩ := hSw
            go_simp
            try with_reducible rfl
          try simp only [Act.put, List.setIfInBounds_toArray, List.set_cons_zero, List.set_cons_succ]
          refine wpAnyH_ready (rs := [2]) (by kernel_rfl) (by simp) ?_
          refine AllReadyH.cons (o := ⟨_, _, _, _, _, _⟩) rfl (fun K hK => ?_) AllReadyH.nil
          go_simp
          refine (hex_any V2.drew p'.prev).mono ?_
          rintro e V3 ⟨rfl, he⟩
          rw [← HS1.out]
          have hxx : V2.drew.Extends V3 := ext_Ext he
          have HPy : Hid (PlayAt w bp p' mh' ma' ns' V3) := HPx.out.grow hxx
          have hby := HPy.out.blk
          dsimp only
          refine hK.out _ _ ?_ (fun hHeld => ?_)
          · exact ⟨hby, trivial⟩
          clear hK K
          clear he hxx HPx hbx
          have HPx := HPy
          have hbx := hby
          clear HPy hby
          try simp only [Act.put, List.setIfInBounds_toArray, List.set_cons_zero, List.set_cons_succ]
          refine wpAnyH_ready (rs := [5]) (by kernel_rfl) (by simp) ?_
          refine AllReadyH.cons (o := ⟨_, _, _, _, _, _⟩) rfl (fun K hK => ?_) AllReadyH.nil
          go_simp
          refine (hex_any V3 p'.last).mono ?_
          rintro e V4 ⟨rfl, he⟩
          rw [← HS2.out]
          have hxx : V3.Extends V4 := ext_Ext he
          have HPy : Hid (PlayAt w bp p' mh' ma' ns' V4) := HPx.out.grow hxx
          have hby := HPy.out.blk
          dsimp only
          refine hK.out _ _ ?_ (fun hHeld => ?_)
          · exact ⟨hby, trivial⟩
          clear hK K
          clear he hxx HPx hbx
          have HPx := HPy
          have hbx := hby
          clear HPy hby
          try simp only [Act.put, List.setIfInBounds_toArray, List.set_cons_zero, List.set_cons_succ]
          refine wpAnyH_take (i := 6) (oi := ⟨_, _, _, _, _, _⟩) (v := ?_) rfl (by kernel_rfl) (by kernel_rfl) (by kernel_rfl) (fun _ _ _ h => h) (Or.inl ⟨by rfl, ?_⟩) (by assumption) ?_
          rotate_left 1
          · intro W' hSw
            obtain ⟨hS1, hS2⟩ := hSw
            go_simp
            try with_reducible rfl
          try simp only [Act.put, List.setIfInBounds_toArray, List.set_cons_zero, List.set_cons_succ]
          refine wpAnyH_done (by kernel_rfl) ?_ _
          go_wp2_with fail
          refine (compare_any V4 p'.prev p'.last).mono ?_
          rintro e V5 ⟨rfl, he⟩
          rw [hcmp]
          have HPy : Hid (PlayAt w bp p' mh' ma' ns' V5) := HPx.out.grow (ext_Ext he)
          have hby := HPy.out.blk
          clear HPx hbx he
          go_wp2_with fail
          refine (equal_any V5 p'.prev p'.last).mono ?_
          rintro e V6 ⟨rfl, he⟩
          rw [hdec]
          have HPx : Hid (PlayAt w bp p' mh' ma' ns' V6) := HPy.out.grow (ext_Ext he)
          have hbx := HPx.out.blk
          clear HPy hby he
          go_wp2_with fail
          refine wp_region_held_drew (S := fun W' => blk W' bp = some p'.enc ∧ True) (by kernel_rfl) ⟨hbx, trivial⟩ (fun hHeld => ?_)
          have HPx : Hid (PlayAt w bp p' mh' ma' ns' V6.drew) := HPx.out.grow (extends_drew (ext_Ext (Ext.refl _)))
          refine wpAnyH_take (i := 0) (oi := ⟨_, _, _, _, _, _⟩) (v := ?_) rfl (by kernel_rfl) (by kernel_rfl) (by kernel_rfl) (fun _ _ _ h => h) (Or.inl ⟨by rfl, ?_⟩) (by assumption) ?_
          rotate_left 1
          · intro W' hSw
            obtain ⟨hS1, hS2⟩ := hSw
            go_simp
            try with_reducible rfl
          try simp only [Act.put, List.setIfInBounds_toArray, List.set_cons_zero, List.set_cons_succ]
          refine wpAnyH_take (i := 1) (oi := ⟨_, _, _, _, _, _⟩) (v := ?_) rfl (by kernel_rfl) (by kernel_rfl) (by kernel_rfl) (fun _ _ _ h => h) (Or.inl ⟨by rfl, ?_⟩) (by assumption) ?_
          rotate_left 1
          · intro W' hSw
            obtain ⟨hS1, hS2⟩ := hSw
            go_simp
            try with_reducible rfl
          try simp only [Act.put, List.setIfInBounds_toArray, List.set_cons_zero, List.set_cons_succ]
          refine wpAnyH_take (i := 3) (oi := ⟨_, _, _, _, _, _⟩) (v := ?_) rfl (by kernel_rfl) (by kernel_rfl) (by kernel_rfl) (fun _ _ _ h => h) (Or.inl ⟨by rfl, ?_⟩) (by assumption) ?_
          rotate_left 1
          · intro W' hSw
            obtain ⟨hS1, hS2⟩ := hSw
            go_simp
            try with_reducible rfl
          try simp only [Act.put, List.setIfInBounds_toArray, List.set_cons_zero, List.set_cons_succ]
          refine wpAnyH_take (i := 4) (oi := ⟨_, _, _, _, _, _⟩) (v := ?_) rfl (by kernel_rfl) (by kernel_rfl) (by kernel_rfl) (fun _ _ _ h => h) (Or.inl ⟨by rfl, ?_⟩) (by assumption) ?_
          rotate_left 1
          · intro W' hSw
            obtain ⟨hS1, hS2⟩ := hSw
            go_simp
            try with_reducible rfl
          try simp only [Act.put, List.setIfInBounds_toArray, List.set_cons_zero, List.set_cons_succ]
          refine wpAnyH_take (i := 5) (oi := ⟨_, _, _, _, _, _⟩) (v := ?_) rfl (by kernel_rfl) (by kernel_rfl) (by kernel_rfl) (fun _ _ _ h => h) (Or.inl ⟨by rfl, ?_⟩) (by assumption) ?_
          rotate_left 1
          · intro W' hSw
            obtain ⟨hS1, hS2⟩ := hSw
            go_simp
            try with_reducible rfl
          try simp only [Act.put, List.setIfInBounds_toArray, List.set_cons_zero, List.set_cons_succ]
          refine wpAnyH_take (i := 6) (oi := ⟨_, _, _, _, _, _⟩) (v := ?_) rfl (by kernel_rfl) (by kernel_rfl) (by kernel_rfl) (fun _ _ _ h => h) (Or.inl ⟨by rfl, ?_⟩) (by assumption) ?_
          rotate_left 1
          · intro W' hSw
            obtain ⟨hS1, hS2⟩ := hSw
            go_simp
            try with_reducible rfl
          try simp only [Act.put, List.setIfInBounds_toArray, List.set_cons_zero, List.set_cons_succ]
          refine wpAnyH_ready (rs := [2]) (by kernel_rfl) (by simp) ?_
          refine AllReadyH.cons (o := ⟨_, _, _, _, _, _⟩) rfl (fun K hK => ?_) AllReadyH.nil
          go_simp
          refine (isZero_any V6.drew p'.last).mono ?_
          rintro e V7 ⟨rfl, he⟩
          have HPy : Hid (PlayAt w bp p' mh' ma' ns' V7) := HPx.out.grow (ext_Ext he)
          have hby := HPy.out.blk
          dsimp only
          refine hK.out _ _ ?_ (fun hHeld => ?_)
          · exact ⟨hby, trivial⟩
          clear hK K
          clear he
          try simp only [Act.put, List.setIfInBounds_toArray, List.set_cons_zero, List.set_cons_succ]
          refine wpAnyH_take (i := 7) (oi := ⟨_, _, _, _, _, _⟩) (v := ?_) rfl (by kernel_rfl) (by kernel_rfl) (by kernel_rfl) (fun _ _ _ h => h) (Or.inl ⟨by rfl, ?_⟩) (by assumption) ?_
          rotate_left 1
          · intro W' hSw
            obtain ⟨hS1, hS2⟩ := hSw
            go_simp
            try with_reducible rfl
          try simp only [Act.put, List.setIfInBounds_toArray, List.set_cons_zero, List.set_cons_succ]
          refine wpAnyH_done (by kernel_rfl) ?_ _
          go_wp2_with fail
          refine ⟨rfl, rfl, ?_, ?_⟩
          · refine ⟨rfl, rfl, rfl, rfl, i + 1, p', mh', ma', ns', by omega, ?_, hns3, hg1, hg2, HPy⟩
            show Value.int .i64 _ = _
            go_num
          · show len - (intOf (Value.int .i64 _)).toNat < len - (intOf (F 16)).toNat
            rw [HIV.out]
            simp [intOf]; omega
        · have hlf : Op.bytesLess p'.prev.toList p'.last.toList = false := by simpa using hl
          have hsl : Op.bytesLess s1 s2 = false := hq.trans hlf
          by_cases he : p'.prev = p'.last
          · have hcmp : cmpD p'.prev p'.last = 0 := by unfold cmpD; rw [if_neg hl, if_pos he]
            have hdec : decide (p'.prev = p'.last) = true := decide_eq_true he
            have hsq : (s1 == s2) = true := by rw [beq_iff_eq]; exact hq2.2 he
            clear hq hq2 hl he hlf
            go_wp2_with fail
            refine wp_region_held_drew (S := fun W' => blk W' bp = some p'.enc ∧ True) (by kernel_rfl) ⟨hbx, trivial⟩ (fun hHeld => ?_)
            have HPx : Hid (PlayAt w bp p' mh' ma' ns' W7.drew) := HPx.out.grow (extends_drew (ext_Ext (Ext.refl _)))
            refine wpAnyH_take (i := 0) (oi := ⟨_, _, _, _, _, _⟩) (v := ?_) rfl (by kernel_rfl) (by kernel_rfl) (by kernel_rfl) (fun _ _ _ h => h) (Or.inl ⟨by rfl, ?_⟩) (by assumption) ?_
            rotate_left 1
            · intro W' hSw
              obtain ⟨hS1, hS2⟩ := hSw
              go_simp
              try with_reducible rfl
            try simp only [Act.put, List.setIfInBounds_toArray, List.set_cons_zero, List.set_cons_succ]
            refine wpAnyH_take (i := 1) (oi := ⟨_, _, _, _, _, _⟩) (v := ?_) rfl (by kernel_rfl) (by kernel_rfl) (by kernel_rfl) (fun _ _ _ h => h) (Or.inl ⟨by rfl, ?_⟩) (by assumption) ?_
            rotate_left 1
            · intro W' hSw
              obtain ⟨hS1, hS2⟩ := hSw
              go_simp
              try with_reducible rfl
            try simp only [Act.put, List.setIfInBounds_toArray, List.set_cons_zero, List.set_cons_succ]
            refine wpAnyH_take (i := 3) (oi := ⟨_, _, _, _, _, _⟩) (v := ?_) rfl (by kernel_rfl) (by kernel_rfl) (by kernel_rfl) (fun _ _ _ h => h) (Or.inl ⟨by rfl, ?_⟩) (by assumption) ?_
            rotate_left 1
            · intro W' hSw
              obtain ⟨hS1, hS2⟩ := hSw
              go_simp
              try with_reducible rfl
            try simp only [Act.put, List.setIfInBounds_toArray, List.set_cons_zero, List.set_cons_succ]
            refine wpAnyH_take (i := 4) (oi := ⟨_, _, _, _, _, _⟩) (v := ?_) rfl (by kernel_rfl) (by kernel_rfl) (by kernel_rfl) (fun _ _ _ h => h) (Or.inl ⟨by rfl, ?_⟩) (by assumption) ?_
            rotate_left 1
            · intro W' hSw
              obtain ⟨hS1, hS2⟩ := hSw
              go_simp
              try with_reducible rfl
            try simp only [Act.put, List.setIfInBounds_toArray, List.set_cons_zero, List.set_cons_succ]
            refine wpAnyH_ready (rs := [2]) (by kernel_rfl) (by simp) ?_
            refine AllReadyH.cons (o := ⟨_, _, _, _, _, _⟩) rfl (fun K hK => ?_) AllReadyH.nil
            go_simp
            refine (hex_any W7.drew p'.prev).mono ?_
            rintro e V1 ⟨rfl, he⟩
            rw [← HS1.out]
            have hxx : W7.drew.Extends V1 := ext_Ext he
            have HPy : Hid (PlayAt w bp p' mh' ma' ns' V1) := HPx.out.grow hxx
            have hby := HPy.out.blk
            dsimp only
            refine hK.out _ _ ?_ (fun hHeld => ?_)
            · exact ⟨hby, trivial⟩
            clear hK K
            clear he hxx HPx hbx
            have HPx := HPy
            have hbx := hby
            clear HPy hby
            try simp only [Act.put, List.setIfInBounds_toArray, List.set_cons_zero, List.set_cons_succ]
            refine wpAnyH_ready (rs := [5]) (by kernel_rfl) (by simp) ?_
            refine AllReadyH.cons (o := ⟨_, _, _, _, _, _⟩) rfl (fun K hK => ?_) AllReadyH.nil
            go_simp
            refine (hex_any V1 p'.last).mono ?_
            rintro e V2 ⟨rfl, he⟩
            rw [← HS2.out]
            have hxx : V1.Extends V2 := ext_Ext he
            have HPy : Hid (PlayAt w bp p' mh' ma' ns' V2) := HPx.out.grow hxx
            have hby := HPy.out.blk
            dsimp only
            refine hK.out _ _ ?_ (fun hHeld => ?_)
            · exact ⟨hby, trivial⟩
            clear hK K
            clear he hxx HPx hbx
            have HPx := HPy
            have hbx := hby
            clear HPy hby
            try simp only [Act.put, List.setIfInBounds_toArray, List.set_cons_zero, List.set_cons_succ]
            refine wpAnyH_take (i := 6) (oi := ⟨_, _, _, _, _, _⟩) (v := ?_) rfl (by kernel_rfl) (by kernel_rfl) (by kernel_rfl) (fun _ _ _ h => h) (Or.inl ⟨by rfl, ?_⟩) (by assumption) ?_
            rotate_left 1
            · intro W' hSw
              obtain ⟨hS1, hS2⟩ := hSw
              go_simp
              try with_reducible rfl
            try simp only [Act.put, List.setIfInBounds_toArray, List.set_cons_zero, List.set_cons_succ]
            refine wpAnyH_done (by kernel_rfl) ?_ _
            go_wp2_with fail
            refine wp_region_held_drew (S := fun W' => blk W' bp = some p'.enc ∧ True) (by kernel_rfl) ⟨hbx, trivial⟩ (fun hHeld => ?_)
            have HPx : Hid (PlayAt w bp p' mh' ma' ns' V2.drew) := HPx.out.grow (extends_drew (ext_Ext (Ext.refl _)))
            refine wpAnyH_take (i := 0) (oi := ⟨_, _, _, _, _, _⟩) (v := ?_) rfl (by kernel_rfl) (by kernel_rfl) (by kernel_rfl) (fun _ _ _ h => h) (Or.inl ⟨by rfl, ?_⟩) (by assumption) ?_
            rotate_left 1
            · intro W' hSw
              obtain ⟨hS1, hS2⟩ := hSw
              go_simp
              try with_reducible rfl
            try simp only [Act.put, List.setIfInBounds_toArray, List.set_cons_zero, List.set_cons_succ]
            refine wpAnyH_take (i := 1) (oi := ⟨_, _, _, _, _, _⟩) (v := ?_) rfl (by kernel_rfl) (by kernel_rfl) (by kernel_rfl) (fun _ _ _ h => h) (Or.inl ⟨by rfl, ?_⟩) (by assumption) ?_
            rotate_left 1
            · intro W' hSw
              obtain ⟨hS1, hS2⟩ := hSw
              go_simp
              try with_reducible rfl
            try simp only [Act.put, List.setIfInBounds_toArray, List.set_cons_zero, List.set_cons_succ]
            refine wpAnyH_take (i := 3) (oi := ⟨_, _, _, _, _, _⟩) (v := ?_) rfl (by kernel_rfl) (by kernel_rfl) (by kernel_rfl) (fun _ _ _ h => h) (Or.inl ⟨by rfl, ?_⟩) (by assumption) ?_
            rotate_left 1
            · intro W' hSw
              obtain ⟨hS1, hS2⟩ := hSw
              go_simp
              try with_reducible rfl
            try simp only [Act.put, List.setIfInBounds_toArray, List.set_cons_zero, List.set_cons_succ]
            refine wpAnyH_take (i := 4) (oi := ⟨_, _, _, _, _, _⟩) (v := ?_) rfl (by kernel_rfl) (by kernel_rfl) (by kernel_rfl) (fun _ _ _ h => h) (Or.inl ⟨by rfl, ?_⟩) (by assumption) ?_
            rotate_left 1
            · intro W' hSw
              obtain ⟨hS1, hS2⟩ := hSw
              go_simp
              try with_reducible rfl
            try simp only [Act.put, List.setIfInBounds_toArray, List.set_cons_zero, List.set_cons_succ]
            refine wpAnyH_ready (rs := [2]) (by kernel_rfl) (by simp) ?_
            refine AllReadyH.cons (o := ⟨_, _, _, _, _, _⟩) rfl (fun K hK => ?_) AllReadyH.nil
            go_simp
            refine (hex_any V2.drew p'.prev).mono ?_
            rintro e V3 ⟨rfl, he⟩
            rw [← HS1.out]
            have hxx : V2.drew.Extends V3 := ext_Ext he
            have HPy : Hid (PlayAt w bp p' mh' ma' ns' V3) := HPx.out.grow hxx
            have hby := HPy.out.blk
            dsimp only
            refine hK.out _ _ ?_ (fun hHeld => ?_)
            · exact ⟨hby, trivial⟩
            clear hK K
            clear he hxx HPx hbx
            have HPx := HPy
            have hbx := hby
            clear HPy hby
            try simp only [Act.put, List.setIfInBounds_toArray, List.set_cons_zero, List.set_cons_succ]
            refine wpAnyH_ready (rs := [5]) (by kernel_rfl) (by simp) ?_
            refine AllReadyH.cons (o := ⟨_, _, _, _, _, _⟩) rfl (fun K hK => ?_) AllReadyH.nil
            go_simp
            refine (hex_any V3 p'.last).mono ?_
            rintro e V4 ⟨rfl, he⟩
            rw [← HS2.out]
            have hxx : V3.Extends V4 := ext_Ext he
            have HPy : Hid (PlayAt w bp p' mh' ma' ns' V4) := HPx.out.grow hxx
            have hby := HPy.out.blk
            dsimp only
            refine hK.out _ _ ?_ (fun hHeld => ?_)
            · exact ⟨hby, trivial⟩
            clear hK K
            clear he hxx HPx hbx
            have HPx := HPy
            have hbx := hby
            clear HPy hby
            try simp only [Act.put, List.setIfInBounds_toArray, List.set_cons_zero, List.set_cons_succ]
            refine wpAnyH_take (i := 6) (oi := ⟨_, _, _, _, _, _⟩) (v := ?_) rfl (by kernel_rfl) (by kernel_rfl) (by kernel_rfl) (fun _ _ _ h => h) (Or.inl ⟨by rfl, ?_⟩) (by assumption) ?_
            rotate_left 1
            · intro W' hSw
              obtain ⟨hS1, hS2⟩ := hSw
              go_simp
              try with_reducible rfl
            try simp only [Act.put, List.setIfInBounds_toArray, List.set_cons_zero, List.set_cons_succ]
            refine wpAnyH_done (by kernel_rfl) ?_ _
            go_wp2_with fail
            refine (compare_any V4 p'.prev p'.last).mono ?_
            rintro e V5 ⟨rfl, he⟩
            rw [hcmp]
            have HPy : Hid (PlayAt w bp p' mh' ma' ns' V5) := HPx.out.grow (ext_Ext he)
            have hby := HPy.out.blk
            clear HPx hbx he
            go_wp2_with fail
            refine (equal_any V5 p'.prev p'.last).mono ?_
            rintro e V6 ⟨rfl, he⟩
            rw [hdec]
            have HPx : Hid (PlayAt w bp p' mh' ma' ns' V6) := HPy.out.grow (ext_Ext he)
            have hbx := HPx.out.blk
            clear HPy hby he
            go_wp2_with fail
            refine wp_region_held_drew (S := fun W' => blk W' bp = some p'.enc ∧ True) (by kernel_rfl) ⟨hbx, trivial⟩ (fun hHeld => ?_)
            have HPx : Hid (PlayAt w bp p' mh' ma' ns' V6.drew) := HPx.out.grow (extends_drew (ext_Ext (Ext.refl _)))
            refine wpAnyH_take (i := 0) (oi := ⟨_, _, _, _, _, _⟩) (v := ?_) rfl (by kernel_rfl) (by kernel_rfl) (by kernel_rfl) (fun _ _ _ h => h) (Or.inl ⟨by rfl, ?_⟩) (by assumption) ?_
            rotate_left 1
            · intro W' hSw
              obtain ⟨hS1, hS2⟩ := hSw
              go_simp
              try with_reducible rfl
            try simp only [Act.put, List.setIfInBounds_toArray, List.set_cons_zero, List.set_cons_succ]
            refine wpAnyH_take (i := 1) (oi := ⟨_, _, _, _, _, _⟩) (v := ?_) rfl (by kernel_rfl) (by kernel_rfl) (by kernel_rfl) (fun _ _ _ h => h) (Or.inl ⟨by rfl, ?_⟩) (by assumption) ?_
            rotate_left 1
            · intro W' hSw
              obtain ⟨hS1, hS2⟩ := hSw
              go_simp
              try with_reducible rfl
            try simp only [Act.put, List.setIfInBounds_toArray, List.set_cons_zero, List.set_cons_succ]
            refine wpAnyH_take (i := 3) (oi := ⟨_, _, _, _, _, _⟩) (v := ?_) rfl (by kernel_rfl) (by kernel_rfl) (by kernel_rfl) (fun _ _ _ h => h) (Or.inl ⟨by rfl, ?_⟩) (by assumption) ?_
            rotate_left 1
            · intro W' hSw
              obtain ⟨hS1, hS2⟩ := hSw
              go_simp
              try with_reducible rfl
            try simp only [Act.put, List.setIfInBounds_toArray, List.set_cons_zero, List.set_cons_succ]
            refine wpAnyH_take (i := 4) (oi := ⟨_, _, _, _, _, _⟩) (v := ?_) rfl (by kernel_rfl) (by kernel_rfl) (by kernel_rfl) (fun _ _ _ h => h) (Or.inl ⟨by rfl, ?_⟩) (by assumption) ?_
            rotate_left 1
            · intro W' hSw
              obtain ⟨hS1, hS2⟩ := hSw
              go_simp
              try with_reducible rfl
            try simp only [Act.put, List.setIfInBounds_toArray, List.set_cons_zero, List.set_cons_succ]
            refine wpAnyH_take (i := 5) (oi := ⟨_, _, _, _, _, _⟩) (v := ?_) rfl (by kernel_rfl) (by kernel_rfl) (by kernel_rfl) (fun _ _ _ h => h) (Or.inl ⟨by rfl, ?_⟩) (by assumption) ?_
            rotate_left 1
            · intro W' hSw
              obtain ⟨hS1, hS2⟩ := hSw
              go_simp
              try with_reducible rfl
            try simp only [Act.put, List.setIfInBounds_toArray, List.set_cons_zero, List.set_cons_succ]
            refine wpAnyH_take (i := 6) (oi := ⟨_, _, _, _, _, _⟩) (v := ?_) rfl (by kernel_rfl) (by kernel_rfl) (by kernel_rfl) (fun _ _ _ h => h) (Or.inl ⟨by rfl, ?_⟩) (by assumption) ?_
            rotate_left 1
            · intro W' hSw
              obtain ⟨hS1, hS2⟩ := hSw
              go_simp
              try with_reducible rfl
            try simp only [Act.put, List.setIfInBounds_toArray, List.set_cons_zero, List.set_cons_succ]
            refine wpAnyH_ready (rs := [2]) (by kernel_rfl) (by simp) ?_
            refine AllReadyH.cons (o := ⟨_, _, _, _, _, _⟩) rfl (fun K hK => ?_) AllReadyH.nil
            go_simp
            refine (isZero_any V6.drew p'.last).mono ?_
            rintro e V7 ⟨rfl, he⟩
            have HPy : Hid (PlayAt w bp p' mh' ma' ns' V7) := HPx.out.grow (ext_Ext he)
            have hby := HPy.out.blk
            dsimp only
            refine hK.out _ _ ?_ (fun hHeld => ?_)
            · exact ⟨hby, trivial⟩
            clear hK K
            clear he
            try simp only [Act.put, List.setIfInBounds_toArray, List.set_cons_zero, List.set_cons_succ]
            refine wpAnyH_take (i := 7) (oi := ⟨_, _, _, _, _, _⟩) (v := ?_) rfl (by kernel_rfl) (by kernel_rfl) (by kernel_rfl) (fun _ _ _ h => h) (Or.inl ⟨by rfl, ?_⟩) (by assumption) ?_
            rotate_left 1
            · intro W' hSw
              obtain ⟨hS1, hS2⟩ := hSw
              go_simp
              try with_reducible rfl
            try simp only [Act.put, List.setIfInBounds_toArray, List.set_cons_zero, List.set_cons_succ]
            refine wpAnyH_done (by kernel_rfl) ?_ _
            go_wp2_with fail
            refine ⟨rfl, rfl, ?_, ?_⟩
            · refine ⟨rfl, rfl, rfl, rfl, i + 1, p', mh', ma', ns', by omega, ?_, hns3, hg1, hg2, HPy⟩
              show Value.int .i64 _ = _
              go_num
            · show len - (intOf (Value.int .i64 _)).toNat < len - (intOf (F 16)).toNat
              rw [HIV.out]
              simp [intOf]; omega
          · have hcmp : cmpD p'.prev p'.last = 1 := by unfold cmpD; rw [if_neg hl, if_neg he]
            have hdec : decide (p'.prev = p'.last) = false := decide_eq_false he
            have hsq : (s1 == s2) = false := by rw [beq_eq_false_iff_ne]; exact fun e => he (hq2.1 e)
            clear hq hq2 hl he hlf
            go_wp2_with fail
            refine wp_region_held_drew (S := fun W' => blk W' bp = some p'.enc ∧ True) (by kernel_rfl) ⟨hbx, trivial⟩ (fun hHeld => ?_)
            have HPx : Hid (PlayAt w bp p' mh' ma' ns' W7.drew) := HPx.out.grow (extends_drew (ext_Ext (Ext.refl _)))
            refine wpAnyH_take (i := 0) (oi := ⟨_, _, _, _, _, _⟩) (v := ?_) rfl (by kernel_rfl) (by kernel_rfl) (by kernel_rfl) (fun _ _ _ h => h) (Or.inl ⟨by rfl, ?_⟩) (by assumption) ?_
            rotate_left 1
            · intro W' hSw
              obtain ⟨hS1, hS2⟩ := hSw
              go_simp
              try with_reducible rfl
            try simp only [Act.put, List.setIfInBounds_toArray, List.set_cons_zero, List.set_cons_succ]
            refine wpAnyH_take (i := 1) (oi := ⟨_, _, _, _, _, _⟩) (v := ?_) rfl (by kernel_rfl) (by kernel_rfl) (by kernel_rfl) (fun _ _ _ h => h) (Or.inl ⟨by rfl, ?_⟩) (by assumption) ?_
            rotate_left 1
            · intro W' hSw
              obtain ⟨hS1, hS2⟩ := hSw
              go_simp
              try with_reducible rfl
            try simp only [Act.put, List.setIfInBounds_toArray, List.set_cons_zero, List.set_cons_succ]
            refine wpAnyH_take (i := 3) (oi := ⟨_, _, _, _, _, _⟩) (v := ?_) rfl (by kernel_rfl) (by kernel_rfl) (by kernel_rfl) (fun _ _ _ h => h) (Or.inl ⟨by rfl, ?_⟩) (by assumption) ?_
            rotate_left 1
            · intro W' hSw
              obtain ⟨hS1, hS2⟩ := hSw
              go_simp
              try with_reducible rfl
            try simp only [Act.put, List.setIfInBounds_toArray, List.set_cons_zero, List.set_cons_succ]
            refine wpAnyH_take (i := 4) (oi := ⟨_, _, _, _, _, _⟩) (v := ?_) rfl (by kernel_rfl) (by kernel_rfl) (by kernel_rfl) (fun _ _ _ h => h) (Or.inl ⟨by rfl, ?_⟩) (by assumption) ?_
            rotate_left 1
            · intro W' hSw
              obtain ⟨hS1, hS2⟩ := hSw
              go_simp
              try with_reducible rfl
            try simp only [Act.put, List.setIfInBounds_toArray, List.set_cons_zero, List.set_cons_succ]
            refine wpAnyH_ready (rs := [2]) (by kernel_rfl) (by simp) ?_
            refine AllReadyH.cons (o := ⟨_, _, _, _, _, _⟩) rfl (fun K hK => ?_) AllReadyH.nil
            go_simp
            refine (hex_any W7.drew p'.prev).mono ?_
            rintro e V1 ⟨rfl, he⟩
            rw [← HS1.out]
            have hxx : W7.drew.Extends V1 := ext_Ext he
            have HPy : Hid (PlayAt w bp p' mh' ma' ns' V1) := HPx.out.grow hxx
            have hby := HPy.out.blk
            dsimp only
            refine hK.out _ _ ?_ (fun hHeld => ?_)
            · exact ⟨hby, trivial⟩
            clear hK K
            clear he hxx HPx hbx
            have HPx := HPy
            have hbx := hby
            clear HPy hby
            try simp only [Act.put, List.setIfInBounds_toArray, List.set_cons_zero, List.set_cons_succ]
            refine wpAnyH_ready (rs := [5]) (by kernel_rfl) (by simp) ?_
            refine AllReadyH.cons (o := ⟨_, _, _, _, _, _⟩) rfl (fun K hK => ?_) AllReadyH.nil
            go_simp
            refine (hex_any V1 p'.last).mono ?_
            rintro e V2 ⟨rfl, he⟩
            rw [← HS2.out]
            have hxx : V1.Extends V2 := ext_Ext he
            have HPy : Hid (PlayAt w bp p' mh' ma' ns' V2) := HPx.out.grow hxx
            have hby := HPy.out.blk
            dsimp only
            refine hK.out _ _ ?_ (fun hHeld => ?_)
            · exact ⟨hby, trivial⟩
            clear hK K
            clear he hxx HPx hbx
            have HPx := HPy
            have hbx := hby
            clear HPy hby
            try simp only [Act.put, List.setIfInBounds_toArray, List.set_cons_zero, List.set_cons_succ]
            refine wpAnyH_take (i := 6) (oi := ⟨_, _, _, _, _, _⟩) (v := ?_) rfl (by kernel_rfl) (by kernel_rfl) (by kernel_rfl) (fun _ _ _ h => h) (Or.inl ⟨by rfl, ?_⟩) (by assumption) ?_
            rotate_left 1
            · intro W' hSw
              obtain ⟨hS1, hS2⟩ := hSw
              go_simp
              try with_reducible rfl
            try simp only [Act.put, List.setIfInBounds_toArray, List.set_cons_zero, List.set_cons_succ]
            refine wpAnyH_done (by kernel_rfl) ?_ _
            go_wp2_with fail
            refine wp_region_held_drew (S := fun W' => blk W' bp = some p'.enc ∧ True) (by kernel_rfl) ⟨hbx, trivial⟩ (fun hHeld => ?_)
            have HPx : Hid (PlayAt w bp p' mh' ma' ns' V2.drew) := HPx.out.grow (extends_drew (ext_Ext (Ext.refl _)))
            refine wpAnyH_take (i := 0) (oi := ⟨_, _, _, _, _, _⟩) (v := ?_) rfl (by kernel_rfl) (by kernel_rfl) (by kernel_rfl) (fun _ _ _ h => h) (Or.inl ⟨by rfl, ?_⟩) (by assumption) ?_
            rotate_left 1
            · intro W' hSw
              obtain ⟨hS1, hS2⟩ := hSw
              go_simp
              try with_reducible rfl
            try simp only [Act.put, List.setIfInBounds_toArray, List.set_cons_zero, List.set_cons_succ]
            refine wpAnyH_take (i := 1) (oi := ⟨_, _, _, _, _, _⟩) (v := ?_) rfl (by kernel_rfl) (by kernel_rfl) (by kernel_rfl) (fun _ _ _ h => h) (Or.inl ⟨by rfl, ?_⟩) (by assumption) ?_
            rotate_left 1
            · intro W' hSw
              obtain ⟨hS1, hS2⟩ := hSw
              go_simp
              try with_reducible rfl
            try simp only [Act.put, List.setIfInBounds_toArray, List.set_cons_zero, List.set_cons_succ]
            refine wpAnyH_take (i := 3) (oi := ⟨_, _, _, _, _, _⟩) (v := ?_) rfl (by kernel_rfl) (by kernel_rfl) (by kernel_rfl) (fun _ _ _ h => h) (Or.inl ⟨by rfl, ?_⟩) (by assumption) ?_
            rotate_left 1
            · intro W' hSw
              obtain ⟨hS1, hS2⟩ := hSw
              go_simp
              try with_reducible rfl
            try simp only [Act.put, List.setIfInBounds_toArray, List.set_cons_zero, List.set_cons_succ]
            refine wpAnyH_take (i := 4) (oi := ⟨_, _, _, _, _, _⟩) (v := ?_) rfl (by kernel_rfl) (by kernel_rfl) (by kernel_rfl) (fun _ _ _ h => h) (Or.inl ⟨by rfl, ?_⟩) (by assumption) ?_
            rotate_left 1
            · intro W' hSw
              obtain ⟨hS1, hS2⟩ := hSw
              go_simp
              try with_reducible rfl
            try simp only [Act.put, List.setIfInBounds_toArray, List.set_cons_zero, List.set_cons_succ]
            refine wpAnyH_ready (rs := [2]) (by kernel_rfl) (by simp) ?_
            refine AllReadyH.cons (o := ⟨_, _, _, _, _, _⟩) rfl (fun K hK => ?_) AllReadyH.nil
            go_simp
            refine (hex_any V2.drew p'.prev).mono ?_
            rintro e V3 ⟨rfl, he⟩
            rw [← HS1.out]
            have hxx : V2.drew.Extends V3 := ext_Ext he
            have HPy : Hid (PlayAt w bp p' mh' ma' ns' V3) := HPx.out.grow hxx
            have hby := HPy.out.blk
            dsimp only
            refine hK.out _ _ ?_ (fun hHeld => ?_)
            · exact ⟨hby, trivial⟩
            clear hK K
            clear he hxx HPx hbx
            have HPx := HPy
            have hbx := hby
            clear HPy hby
            try simp only [Act.put, List.setIfInBounds_toArray, List.set_cons_zero, List.set_cons_succ]
            refine wpAnyH_ready (rs := [5]) (by kernel_rfl) (by simp) ?_
            refine AllReadyH.cons (o := ⟨_, _, _, _, _, _⟩) rfl (fun K hK => ?_) AllReadyH.nil
            go_simp
            refine (hex_any V3 p'.last).mono ?_
            rintro e V4 ⟨rfl, he⟩
            rw [← HS2.out]
            have hxx : V3.Extends V4 := ext_Ext he
            have HPy : Hid (PlayAt w bp p' mh' ma' ns' V4) := HPx.out.grow hxx
            have hby := HPy.out.blk
            dsimp only
            refine hK.out _ _ ?_ (fun hHeld => ?_)
            · exact ⟨hby, trivial⟩
            clear hK K
            clear he hxx HPx hbx
            have HPx := HPy
            have hbx := hby
            clear HPy hby
            try simp only [Act.put, List.setIfInBounds_toArray, List.set_cons_zero, List.set_cons_succ]
            refine wpAnyH_take (i := 6) (oi := ⟨_, _, _, _, _, _⟩) (v := ?_) rfl (by kernel_rfl) (by kernel_rfl) (by kernel_rfl) (fun _ _ _ h => h) (Or.inl ⟨by rfl, ?_⟩) (by assumption) ?_
            rotate_left 1
            · intro W' hSw
              obtain ⟨hS1, hS2⟩ := hSw
              go_simp
              try with_reducible rfl
            try simp only [Act.put, List.setIfInBounds_toArray, List.set_cons_zero, List.set_cons_succ]
            refine wpAnyH_done (by kernel_rfl) ?_ _
            go_wp2_with fail
            refine (compare_any V4 p'.prev p'.last).mono ?_
            rintro e V5 ⟨rfl, he⟩
            rw [hcmp]
            have HPy : Hid (PlayAt w bp p' mh' ma' ns' V5) := HPx.out.grow (ext_Ext he)
            have hby := HPy.out.blk
            clear HPx hbx he
            go_wp2_with fail
            refine (equal_any V5 p'.prev p'.last).mono ?_
            rintro e V6 ⟨rfl, he⟩
            rw [hdec]
            have HPx : Hid (PlayAt w bp p' mh' ma' ns' V6) := HPy.out.grow (ext_Ext he)
            have hbx := HPx.out.blk
            clear HPy hby he
            go_wp2_with fail
            refine wp_region_held_drew (S := fun W' => blk W' bp = some p'.enc ∧ True) (by kernel_rfl) ⟨hbx, trivial⟩ (fun hHeld => ?_)
            have HPx : Hid (PlayAt w bp p' mh' ma' ns' V6.drew) := HPx.out.grow (extends_drew (ext_Ext (Ext.refl _)))
            refine wpAnyH_take (i := 0) (oi := ⟨_, _, _, _, _, _⟩) (v := ?_) rfl (by kernel_rfl) (by kernel_rfl) (by kernel_rfl) (fun _ _ _ h => h) (Or.inl ⟨by rfl, ?_⟩) (by assumption) ?_
            rotate_left 1
            · intro W' hSw
              obtain ⟨hS1, hS2⟩ := hSw
              go_simp
              try with_reducible rfl
            try simp only [Act.put, List.setIfInBounds_toArray, List.set_cons_zero, List.set_cons_succ]
            refine wpAnyH_take (i := 1) (oi := ⟨_, _, _, _, _, _⟩) (v := ?_) rfl (by kernel_rfl) (by kernel_rfl) (by kernel_rfl) (fun _ _ _ h => h) (Or.inl ⟨by rfl, ?_⟩) (by assumption) ?_
            rotate_left 1
            · intro W' hSw
              obtain ⟨hS1, hS2⟩ := hSw
              go_simp
              try with_reducible rfl
            try simp only [Act.put, List.setIfInBounds_toArray, List.set_cons_zero, List.set_cons_succ]
            refine wpAnyH_take (i := 3) (oi := ⟨_, _, _, _, _, _⟩) (v := ?_) rfl (by kernel_rfl) (by kernel_rfl) (by kernel_rfl) (fun _ _ _ h => h) (Or.inl ⟨by rfl, ?_⟩) (by assumption) ?_
            rotate_left 1
            · intro W' hSw
              obtain ⟨hS1, hS2⟩ := hSw
              go_simp
              try with_reducible rfl
            try simp only [Act.put, List.setIfInBounds_toArray, List.set_cons_zero, List.set_cons_succ]
            refine wpAnyH_take (i := 4) (oi := ⟨_, _, _, _, _, _⟩) (v := ?_) rfl (by kernel_rfl) (by kernel_rfl) (by kernel_rfl) (fun _ _ _ h => h) (Or.inl ⟨by rfl, ?_⟩) (by assumption) ?_
            rotate_left 1
            · intro W' hSw
              obtain ⟨hS1, hS2⟩ := hSw
              go_simp
              try with_reducible rfl
            try simp only [Act.put, List.setIfInBounds_toArray, List.set_cons_zero, List.set_cons_succ]
            refine wpAnyH_take (i := 5) (oi := ⟨_, _, _, _, _, _⟩) (v := ?_) rfl (by kernel_rfl) (by kernel_rfl) (by kernel_rfl) (fun _ _ _ h => h) (Or.inl ⟨by rfl, ?_⟩) (by assumption) ?_
            rotate_left 1
            · intro W' hSw
              obtain ⟨hS1, hS2⟩ := hSw
              go_simp
              try with_reducible rfl
            try simp only [Act.put, List.setIfInBounds_toArray, List.set_cons_zero, List.set_cons_succ]
            refine wpAnyH_take (i := 6) (oi := ⟨_, _, _, _, _, _⟩) (v := ?_) rfl (by kernel_rfl) (by kernel_rfl) (by kernel_rfl) (fun _ _ _ h => h) (Or.inl ⟨by rfl, ?_⟩) (by assumption) ?_
            rotate_left 1
            · intro W' hSw
              obtain ⟨hS1, hS2⟩ := hSw
              go_simp
              try with_reducible rfl
            try simp only [Act.put, List.setIfInBounds_toArray, List.set_cons_zero, List.set_cons_succ]
            refine wpAnyH_ready (rs := [2]) (by kernel_rfl) (by simp) ?_
            refine AllReadyH.cons (o := ⟨_, _, _, _, _, _⟩) rfl (fun K hK => ?_) AllReadyH.nil
            go_simp
            refine (isZero_any V6.drew p'.last).mono ?_
            rintro e V7 ⟨rfl, he⟩
            have HPy : Hid (PlayAt w bp p' mh' ma' ns' V7) := HPx.out.grow (ext_Ext he)
            have hby := HPy.out.blk
            dsimp only
            refine hK.out _ _ ?_ (fun hHeld => ?_)
            · exact ⟨hby, trivial⟩
            clear hK K
            clear he
            try simp only [Act.put, List.setIfInBounds_toArray, List.set_cons_zero, List.set_cons_succ]
            refine wpAnyH_take (i := 7) (oi := ⟨_, _, _, _, _, _⟩) (v := ?_) rfl (by kernel_rfl) (by kernel_rfl) (by kernel_rfl) (fun _ _ _ h => h) (Or.inl ⟨by rfl, ?_⟩) (by assumption) ?_
            rotate_left 1
            · intro W' hSw
              obtain ⟨hS1, hS2⟩ := hSw
              go_simp
              try with_reducible rfl
            try simp only [Act.put, List.setIfInBounds_toArray, List.set_cons_zero, List.set_cons_succ]
            refine wpAnyH_done (by kernel_rfl) ?_ _
            go_wp2_with fail
            refine ⟨rfl, rfl, ?_, ?_⟩
            · refine ⟨rfl, rfl, rfl, rfl, i + 1, p', mh', ma', ns', by omega, ?_, hns3, hg1, hg2, HPy⟩
              show Value.int .i64 _ = _
              go_num
            · show len - (intOf (Value.int .i64 _)).toNat < len - (intOf (F 16)).toNat
              rw [HIV.out]
              simp [intOf]; omega
    · obtain rfl : i = len := by omega
      go_wp2_with fail
      go_ret
      exact ⟨rfl, by rw [← hw]; exact HP0.out.ext⟩
end Go.Proofs.Qxb6500785a
