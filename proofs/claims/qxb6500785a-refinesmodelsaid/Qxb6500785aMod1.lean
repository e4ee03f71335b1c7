import Derived.Test.Qxb6500785aMIns
import Derived.Test.Qxb6500785aStepB3

import Derived.Test.Qxb6500785aStream
import Derived.Test.Qxb6500785aApart
import Derived.Test.Qxb6500785aKnown
import Derived.Deep.RegionHeld
import Derived.Deep.CutRange
import Derived.Laws.ResultCell
import Derived.Laws.Rows
set_option linter.unusedSimpArgs false
set_option linter.unusedVariables false
namespace Go.Proofs.Qxb6500785a
open Go.RowKit Go.Blk
attribute [local go_sem ↓] execOp_load execOp_store execOp_alloc
attribute [local go_sem] Try.ld24 Try.st24 Try.ld5 Try.st5 Try.ld3 Try.st3 Try.ld27 Try.st27 Try.ld32 Try.st32 Try.ld33 Try.st33 Try.ld4 Try.st4 Try.ld41 Try.st41 Try.ld40 Try.st40 Try.ld42 Try.st42 Try.ld47 Try.st47 Try.ld48 Try.st48 Try.ld57 Try.st57 Try.ld58 Try.st58 Try.ld2 Try.st2 Try.ld9 Try.st9 Try.ld12 Try.st12 Try.ld21 Try.st21 Try.ld22 Try.st22 Try.ld46 Try.st46 Try.ld83 Try.st83 Try.ld95 Try.st95 Try.ld99 Try.st99 Try.ld106 Try.st106 Try.ld108 Try.st108 Try.ld134 Try.st134 Try.ld25 Try.st25 Try.ld26 Try.st26 Try.ld34 Try.st34 Try.ld31 Try.st31 Try.ld30 Try.st30 Try.ld74 Try.st74 Try.ld96 Try.st96 Try.ld101 Try.st101 Try.ld115 Try.st115 Try.ld116 Try.st116 Try.ld120 Try.st120 Try.ld121 Try.st121 Try.ld122 Try.st122 Try.ld29 Try.st29 Try.ld36 Try.st36 Try.ld38 Try.st38 Try.ld44 Try.st44 Try.ld50 Try.st50 Try.ld60 Try.st60 Try.ld110 Try.st110 Try.al25 Try.al26 Try.al34 Try.al31 Try.al30 Try.al74 Try.al96 Try.al101 Try.al115 Try.al116 Try.al120 Try.al121 Try.al122 Try.al29 Try.al36 Try.al38 Try.al44 Try.al50 Try.al60 Try.al110
attribute [local go_sem] Hasher.length_enc Hasher.ok_enc Hasher.all_get Hasher.all_set Hasher.state_get Hasher.state_set Hasher.block_get Hasher.block_set Hasher.fill_get Hasher.fill_set Hasher.length_get Hasher.length_set GLog.length_enc GLog.ok_enc GLog.all_get GLog.all_set GLog.entries_get GLog.entries_set GLog.shelves_get GLog.shelves_set GLog.first_get GLog.first_set GLog.second_get GLog.second_set GLog.found_get GLog.found_set Player.length_enc Player.ok_enc Player.all_get Player.all_set Player.hand_get Player.hand_set Player.aside_get Player.aside_set Player.prev_get Player.prev_set Player.last_get Player.last_set Player.log_get Player.log_set Player.hand_state_get Player.hand_state_set Player.hand_block_get Player.hand_block_set Player.hand_fill_get Player.hand_fill_set Player.hand_length_get Player.hand_length_set Player.aside_state_get Player.aside_state_set Player.aside_block_get Player.aside_block_set Player.aside_fill_get Player.aside_fill_set Player.aside_length_get Player.aside_length_set Player.log_entries_get Player.log_entries_set Player.log_shelves_get Player.log_shelves_set Player.log_first_get Player.log_first_set Player.log_second_get Player.log_second_set Player.log_found_get Player.log_found_set GOp.length_enc GOp.ok_enc GOp.all_get GOp.all_set GOp.kind_get GOp.kind_set GOp.data_get GOp.data_set GOp.cut_get GOp.cut_set GOp.n_get GOp.n_set GOp.b_get GOp.b_set GOp.v_get GOp.v_set GOp.dom_get GOp.dom_set GOp.sum_get GOp.sum_set Answer.length_enc Answer.ok_enc Answer.all_get Answer.all_set Answer.code_get Answer.code_set Answer.sum_get Answer.sum_set Answer.len_get Answer.len_set Answer.mark_get Answer.mark_set Answer.noted_get Answer.noted_set Answer.collided_get Answer.collided_set GState.length_enc GState.ok_enc GState.all_get GState.all_set GState.hand_get GState.hand_set GState.aside_get GState.aside_set GState.prev_get GState.prev_set GState.last_get GState.last_set GState.inputs_get GState.inputs_set GState.sums_get GState.sums_set GState.collided_get GState.collided_set GState.older_get GState.older_set GState.younger_get GState.younger_set Noted.length_enc Noted.ok_enc Noted.all_get Noted.all_set Noted.input_get Noted.input_set Noted.sum_get Noted.sum_set
attribute [local go_sem] size_put size_ext blk_put free_put blk_alloc free_alloc blk_drew free_drew blk_ext free_ext lookOr_some putOr_some segAt_some cellAt_some storeIn_some put_put put_alloc_new length_arr ok_arr_u8 ok_arr_u32 ok_arr_u64 ok_arr_i64 ok_arr_sl cellsV_agg cellsV_int cellsV_bool cellsV_string cellsV_pointer cellsV_slice cellsV_sl ok_int ok_bool ok_string ok_pointer ok_slice ok_sl toList_arr seg_arr set_arr nth_splice nth_splice0 seg_splice seg_splice0 splice_splice splice_splice0 length_splice_if
attribute [local go_sem] w32_and w32_or w32_xor w32_add w32_or8 w32_not w8_and w8_or w8_xor w32_shr2 w32_shl2 w32_shr3 w32_shl3 w32_shr6 w32_shl6 w32_shr7 w32_shl7 w32_shr8 w32_shl8 w32_shr10 w32_shl10 w32_shr11 w32_shl11 w32_shr13 w32_shl13 w32_shr14 w32_shl14 w32_shr15 w32_shl15 w32_shr16 w32_shl16 w32_shr17 w32_shl17 w32_shr18 w32_shl18 w32_shr19 w32_shl19 w32_shr21 w32_shl21 w32_shr22 w32_shl22 w32_shr24 w32_shl24 w32_shr25 w32_shl25 w32_shr26 w32_shl26 w32_shr30 w32_shl30 w8_shl24 w8_shl16 w8_shl8 v32_add v32_byte w32_byte0 v8_shl24 v8_shl16 v8_shl8 v32_shr2 v32_shl2 v32_shr3 v32_shl3 v32_shr6 v32_shl6 v32_shr7 v32_shl7 v32_shr8 v32_shl8 v32_shr10 v32_shl10 v32_shr11 v32_shl11 v32_shr13 v32_shl13 v32_shr14 v32_shl14 v32_shr15 v32_shl15 v32_shr16 v32_shl16 v32_shr17 v32_shl17 v32_shr18 v32_shl18 v32_shr19 v32_shl19 v32_shr21 v32_shl21 v32_shr22 v32_shl22 v32_shr24 v32_shl24 v32_shr25 v32_shl25 v32_shr26 v32_shl26 v32_shr30 v32_shl30
attribute [local go_sem ↓] execOp_build
attribute [local go_sem] run_build_kv run_build_iv nth_arr_u32 put_arr_u32 nth_arr_u8 put_arr_u8 v32_of8 blk_drewN free_drewN put_drewN put_drew blk_raw free_raw
attribute [local go_sem ↓] execOp_slice execOp_copy
attribute [local go_sem] Try.sl40lo Try.sl40hi Try.sl26lo Try.sl26hi Try.sl26 Try.sl96lo Try.sl96hi Try.sl96 Try.sl31lo Try.sl31 Try.sl120 Try.sl121 Try.sl121lo Try.sl121hi Try.cp40 copyOr_some copyIn_some srcB_drew srcB_drewN srcB_raw length_bv one_bv
attribute [local go_sem] Hasher.length_zero
attribute [local go_sem] Try.cpv copyOrV_some
attribute [local go_sem ↓] execOp_index execOp_convert execOp_box execOp_convert9
attribute [local go_sem] index_hex box_run conv_bytes eq31
attribute [local go_sem] build31
attribute [local go_sem ↓] execOp_make execOp_bslice
attribute [local go_sem] make40 bslice57 bslice58
theorem getD_get {l : List UInt8} {i : Nat} (h : i < l.length) : l.getD i 0 = l[i] := by simp [h]
theorem getD_hexK (d : Vector UInt8 32) (j : Nat) (h : j < 64) : (hexOf d).getD j 0 = if j % 2 = 0 then hexD ((d.toList.getD (j / 2) 0).toNat / 16) else hexD ((d.toList.getD (j / 2) 0).toNat % 16) := by
  have hl : j < (hexOf d).length := by simp [hexOf]; exact h
  rw [getD_get hl]
  simp only [hexOf, hexK, Vector.getElem_toList, Vector.getElem_ofFn]
  rw [if_pos (by omega)]
theorem length_hexOf (d : Vector UInt8 32) : (hexOf d).length = 64 := by simp [hexOf]
def hxz (xs : List UInt8) : List UInt8 := xs.flatMap fun x => [hexD (x.toNat / 16), hexD (x.toNat % 16)]
theorem length_hx (xs : List UInt8) : (hxz xs).length = 2 * xs.length := by
  induction xs with
  | nil => rfl
  | cons x xs ih =>
    show (hexD (x.toNat / 16) :: hexD (x.toNat % 16) :: hxz xs).length = _
    simp only [List.length_cons, ih]
    omega
theorem getD_hx (xs : List UInt8) : ∀ j, j < 2 * xs.length → (hxz xs).getD j 0 = if j % 2 = 0 then hexD ((xs.getD (j / 2) 0).toNat / 16) else hexD ((xs.getD (j / 2) 0).toNat % 16) := by
  induction xs with
  | nil => intro j h; simp at h
  | cons x xs ih =>
    intro j h
    have e : hxz (x :: xs) = hexD (x.toNat / 16) :: hexD (x.toNat % 16) :: hxz xs := rfl
    rw [e]
    match j with
    | 0 => rfl
    | 1 => rfl
    | j + 2 =>
      rw [List.getD_cons_succ, List.getD_cons_succ, ih j (by simp at h; omega)]
      have e1 : (j + 2) % 2 = j % 2 := by omega
      have e2 : (j + 2) / 2 = j / 2 + 1 := by omega
      rw [e1, e2, List.getD_cons_succ]
theorem hexOf_hx (d : Vector UInt8 32) : hexOf d = hxz d.toList := by
  apply List.ext_getElem
  · rw [length_hexOf, length_hx]; simp
  · intro j h1 h2
    have a := getD_hexK d j (by rw [length_hexOf] at h1; exact h1)
    have b := getD_hx d.toList j (by rw [length_hx] at h2; exact h2)
    rw [getD_get h1] at a
    rw [getD_get h2] at b
    rw [a, b]
theorem hexD_lt : ∀ i : Fin 16, ∀ j : Fin 16, (hexD i.val < hexD j.val ↔ i.val < j.val) ∧ (hexD i.val = hexD j.val ↔ i.val = j.val) := by decide
theorem hexD_lt' {i j : Nat} (hi : i < 16) (hj : j < 16) : (hexD i < hexD j ↔ i < j) ∧ (hexD i = hexD j ↔ i = j) := hexD_lt ⟨i, hi⟩ ⟨j, hj⟩
theorem u8_lt (x y : UInt8) : x < y ↔ x.toNat < y.toNat := Iff.rfl
theorem less_hx : ∀ (xs ys : List UInt8), Op.bytesLess (hxz xs) (hxz ys) = Op.bytesLess xs ys
  | _, [] => by cases ‹List UInt8› <;> rfl
  | [], y :: ys => rfl
  | x :: xs, y :: ys => by
    have ih := less_hx xs ys
    have e : ∀ (x : UInt8) (xs : List UInt8), hxz (x :: xs) = hexD (x.toNat / 16) :: hexD (x.toNat % 16) :: hxz xs := fun _ _ => rfl
    rw [e, e]
    simp only [Op.bytesLess, ih]
    have hx8 := w8_lt x
    have hy8 := w8_lt y
    have h1 := hexD_lt' (i := x.toNat / 16) (j := y.toNat / 16) (by omega) (by omega)
    have h2 := hexD_lt' (i := x.toNat % 16) (j := y.toNat % 16) (by omega) (by omega)
    have h3 : (x = y) ↔ x.toNat = y.toNat := UInt8.toNat_inj.symm
    have h4 : x < y ↔ x.toNat < y.toNat := u8_lt x y
    apply Bool.eq_iff_iff.2
    simp only [Bool.or_eq_true, Bool.and_eq_true, decide_eq_true_eq, beq_iff_eq, h1.1, h1.2, h2.1, h2.2, h3, h4]
    by_cases hP : Op.bytesLess xs ys = true
    · simp only [hP, and_true]; omega
    · simp only [hP, and_false, or_false]; simp only [Bool.false_eq_true, and_false, or_false]; omega
theorem hexOf_less (a b : Vector UInt8 32) : Op.bytesLess (hexOf a) (hexOf b) = Op.bytesLess a.toList b.toList := by rw [hexOf_hx, hexOf_hx, less_hx]
theorem nib_hexD : ∀ i : Fin 16, nibV (hexD i.val) = some (UInt8.ofNat i.val) := by decide
set_option maxRecDepth 100000 in
theorem byte_parts : ∀ n : Fin 256, (UInt8.ofNat (n.val / 16) <<< 4 ||| UInt8.ofNat (n.val % 16)) = UInt8.ofNat n.val := by decide
theorem byte_parts' (x : UInt8) : (UInt8.ofNat (x.toNat / 16) <<< 4 ||| UInt8.ofNat (x.toNat % 16)) = x := by
  have h := byte_parts ⟨x.toNat, by have := w8_lt x; omega⟩
  rw [h]
  simp
theorem parse_hexN (d : Vector UInt8 32) : ∀ i, i ≤ 32 → ∃ v, parseN (hexOf d) i = some v ∧ ∀ j (h : j < 32), v[j] = if j < i then d[j] else 0 := by
  intro i
  induction i with
  | zero => intro _; exact ⟨_, rfl, fun j h => by simp⟩
  | succ i ih =>
    intro hi
    obtain ⟨v, h1, h2⟩ := ih (by omega)
    have hd : d.toList.getD i 0 = d[i] := by rw [getD_get (by simp; omega)]; simp
    have hb := w8_lt d[i]
    have g1 : nibV ((hexOf d).getD (2 * i) 0) = some (UInt8.ofNat (d[i].toNat / 16)) := by
      rw [getD_hexK d _ (by omega), if_pos (by omega), show 2 * i / 2 = i by omega, hd]
      exact nib_hexD ⟨d[i].toNat / 16, by omega⟩
    have g2 : nibV ((hexOf d).getD (2 * i + 1) 0) = some (UInt8.ofNat (d[i].toNat % 16)) := by
      rw [getD_hexK d _ (by omega), if_neg (by omega), show (2 * i + 1) / 2 = i by omega, hd]
      exact nib_hexD ⟨d[i].toNat % 16, by omega⟩
    refine ⟨_, parseN_some h1 (by omega) g1 g2, fun j h => ?_⟩
    rw [byte_parts', Vector.getElem_set]
    by_cases e : i = j
    · subst e; simp
    · rw [if_neg e, h2 j h]
      by_cases q : j < i
      · rw [if_pos q, if_pos (by omega)]
      · rw [if_neg q, if_neg (by omega)]
theorem parse_hex (d : Vector UInt8 32) : parseH (hexOf d) = some d := by
  unfold parseH
  rw [if_pos (length_hexOf d)]
  obtain ⟨v, h1, h2⟩ := parse_hexN d 32 (Nat.le_refl _)
  have hv : v = d := by
    apply Vector.ext
    intro j hj
    rw [h2 j hj, if_pos hj]
  rw [← hv, hv]
  exact h1.trans (congrArg some hv)
set_option maxRecDepth 100000 in
theorem nib_back : ∀ n : Fin 256, ((nibV (UInt8.ofNat n.val)).all fun a => decide (a.toNat < 16) && decide (hexD a.toNat = UInt8.ofNat n.val)) = true := by decide
theorem nib_back' {c a : UInt8} (h : nibV c = some a) : a.toNat < 16 ∧ hexD a.toNat = c := by
  have := nib_back ⟨c.toNat, by have := w8_lt c; omega⟩
  rw [show UInt8.ofNat c.toNat = c by simp] at this
  rw [h] at this
  simpa using this
set_option maxRecDepth 100000 in
theorem parts_back : ∀ i : Fin 16, ∀ j : Fin 16, (UInt8.ofNat i.val <<< 4 ||| UInt8.ofNat j.val).toNat / 16 = i.val ∧ (UInt8.ofNat i.val <<< 4 ||| UInt8.ofNat j.val).toNat % 16 = j.val := by decide
theorem parts_back' {a b : UInt8} (ha : a.toNat < 16) (hb : b.toNat < 16) : (a <<< 4 ||| b).toNat / 16 = a.toNat ∧ (a <<< 4 ||| b).toNat % 16 = b.toNat := by
  have := parts_back ⟨a.toNat, ha⟩ ⟨b.toNat, hb⟩
  simpa using this
theorem parseN_at (xs : List UInt8) : ∀ i d, parseN xs i = some d → i ≤ 32 → ∀ j (hj : j < 32), j < i → ∃ a b, nibV (xs.getD (2 * j) 0) = some a ∧ nibV (xs.getD (2 * j + 1) 0) = some b ∧ d[j] = (a <<< 4 ||| b) := by
  intro i
  induction i with
  | zero => intro d _ _ j _ h; omega
  | succ i ih =>
    intro d h hi j hj hji
    have h' : parseK xs i (parseN xs i) = some d := h
    cases hp : parseN xs i with
    | none => rw [hp] at h'; simp [parseK] at h'
    | some d0 =>
      rw [hp] at h'
      simp only [parseK] at h'
      cases ha : nibV (xs.getD (2 * i) 0) with
      | none => rw [ha] at h'; simp at h'
      | some a =>
        cases hb : nibV (xs.getD (2 * i + 1) 0) with
        | none => rw [ha, hb] at h'; simp at h'
        | some b =>
          rw [ha, hb] at h'
          simp only [show i < 32 by omega, dif_pos, Option.some.injEq] at h'
          subst h'
          by_cases e : i = j
          · subst e
            exact ⟨a, b, ha, hb, by simp⟩
          · obtain ⟨a', b', q1, q2, q3⟩ := ih d0 hp (by omega) j hj (by omega)
            exact ⟨a', b', q1, q2, by rw [Vector.getElem_set, if_neg e]; exact q3⟩
theorem hex_parse {xs : List UInt8} {d : Vector UInt8 32} (h : parseH xs = some d) : hexOf d = xs := by
  unfold parseH at h
  by_cases hl : xs.length = 64
  · rw [if_pos hl] at h
    apply List.ext_getElem
    · rw [length_hexOf, hl]
    · intro j h1 h2
      have hj : j < 64 := by omega
      obtain ⟨a, b, q1, q2, q3⟩ := parseN_at xs 32 d h (Nat.le_refl _) (j / 2) (by omega) (by omega)
      have hg := getD_hexK d j hj
      rw [getD_get h1, getD_get (show j / 2 < d.toList.length by simp; omega)] at hg
      simp only [Vector.getElem_toList] at hg
      rw [hg, q3]
      obtain ⟨ha, ha'⟩ := nib_back' q1
      obtain ⟨hb, hb'⟩ := nib_back' q2
      obtain ⟨p1, p2⟩ := parts_back' ha hb
      rw [p1, p2]
      by_cases e : j % 2 = 0
      · rw [if_pos e, ha', show 2 * (j / 2) = j by omega, getD_get h2]
      · rw [if_neg e, hb', show 2 * (j / 2) + 1 = j by omega, getD_get h2]
  · rw [if_neg hl] at h; simp at h
def cmpD (a b : Vector UInt8 32) : Int := if Op.bytesLess a.toList b.toList = true then -1 else if a = b then 0 else 1
theorem less_at : ∀ (i : Nat) (xs ys : List UInt8), xs.take i = ys.take i → i < xs.length → i < ys.length → (xs.getD i 0).toNat < (ys.getD i 0).toNat → Op.bytesLess xs ys = true
  | 0, x :: xs, y :: ys, _, _, _, h => by
    simp only [List.getD_cons_zero] at h
    simp only [Op.bytesLess, Bool.or_eq_true, decide_eq_true_eq]
    exact .inl h
  | i + 1, x :: xs, y :: ys, ht, hxz, hy, h => by
    simp only [List.take_succ_cons, List.cons.injEq] at ht
    simp only [List.getD_cons_succ] at h
    have ih := less_at i xs ys ht.2 (by simp at hxz; omega) (by simp at hy; omega) h
    simp [Op.bytesLess, ht.1, ih]
  | _, [], _, _, hxz, _, _ => by simp at hxz
  | _, _ :: _, [], _, _, hy, _ => by simp at hy
theorem more_at : ∀ (i : Nat) (xs ys : List UInt8), xs.take i = ys.take i → i < xs.length → i < ys.length → (ys.getD i 0).toNat < (xs.getD i 0).toNat → Op.bytesLess xs ys = false ∧ xs ≠ ys
  | 0, x :: xs, y :: ys, _, _, _, h => by
    simp only [List.getD_cons_zero] at h
    have h1 : ¬ x < y := by rw [u8_lt]; omega
    have h2 : ¬ x = y := by rintro rfl; omega
    refine ⟨by simp [Op.bytesLess, h1, h2], fun e => ?_⟩
    simp at e
    exact h2 e.1
  | i + 1, x :: xs, y :: ys, ht, hxz, hy, h => by
    simp only [List.take_succ_cons, List.cons.injEq] at ht
    simp only [List.getD_cons_succ] at h
    have ih := more_at i xs ys ht.2 (by simp at hxz; omega) (by simp at hy; omega) h
    obtain ⟨rfl, _⟩ := ht
    refine ⟨?_, fun e => ?_⟩
    · have : ¬ x < x := by rw [u8_lt]; omega
      simp [Op.bytesLess, ih.1, this]
    · simp at e
      exact ih.2 e
  | _, [], _, _, hxz, _, _ => by simp at hxz
  | _, _ :: _, [], _, _, hy, _ => by simp at hy
theorem less_irrefl : ∀ xs : List UInt8, Op.bytesLess xs xs = false
  | [] => rfl
  | x :: xs => by
    have : ¬ x < x := by rw [u8_lt]; omega
    simp [Op.bytesLess, this, less_irrefl xs]
set_option maxRecDepth 100000 in
theorem frame13 (f : Nat → Value) : frameN 13 f = #[f 0, f 1, f 2, f 3, f 4, f 5, f 6, f 7, f 8, f 9, f 10, f 11, f 12] := by kernel_rfl
def dgV (c : UInt8) : Int := match nibV c with
  | some a => (a.toNat : Int)
  | none => -1
theorem dgV_hex (v : Nat) (h : v < 16) : dgV (hexD v) = (v : Int) := by
  unfold dgV
  rw [nib_hexD ⟨v, h⟩]
  have : v < 256 := by omega
  simp
  omega
theorem dgV_none {c : UInt8} (h : ∀ v, v < 16 → hexD v ≠ c) : dgV c = -1 := by
  unfold dgV
  cases hn : nibV c with
  | none => rfl
  | some a =>
    obtain ⟨h1, h2⟩ := nib_back' hn
    exact absurd h2 (h _ h1)
theorem index_hex64 (w : World) (n : Nat) (h : n < 16) : (indexOp 9 (.string ⟨#[48, 49, 50, 51, 52, 53, 54, 55, 56, 57, 97, 98, 99, 100, 101, 102]⟩) (.int .i64 (n : Int))).run Try.prog w = .ok (.value (.int .u8 (w8 (hexD n)))) w := by
  have hu : Try.prog.underlying 9 = some .string := Try.underlying9
  have h0 : (0 : Int) ≤ (n : Int) := by omega
  have hs : (⟨#[48, 49, 50, 51, 52, 53, 54, 55, 56, 57, 97, 98, 99, 100, 101, 102]⟩ : ByteArray)[n]? = some (hexD n) := by
    have : n = 0 ∨ n = 1 ∨ n = 2 ∨ n = 3 ∨ n = 4 ∨ n = 5 ∨ n = 6 ∨ n = 7 ∨ n = 8 ∨ n = 9 ∨ n = 10 ∨ n = 11 ∨ n = 12 ∨ n = 13 ∨ n = 14 ∨ n = 15 := by omega
    rcases this with rfl | rfl | rfl | rfl | rfl | rfl | rfl | rfl | rfl | rfl | rfl | rfl | rfl | rfl | rfl | rfl <;> rfl
  simp [indexOp, Instr.index, asIntOf, run_underlying hu, h0, hs, w8]
attribute [local go_sem] index_hex64
def dgI (w : World) (c : UInt8) (f : Nat → Value) (W : World) : Prop :=
  f 0 = .int .u8 (w8 c) ∧ W = w ∧ ∃ v : Nat, v ≤ 16 ∧ f 3 = .int .i64 (v : Nat) ∧ Hid (∀ v', v' < v → hexD v' ≠ c)
theorem w8_inj {x y : UInt8} (h : w8 x = w8 y) : x = y := by unfold w8 at h; exact UInt8.toNat_inj.1 (by omega)
set_option maxRecDepth 20000 in
theorem digit_any (w : World) (c : UInt8) : Calls Try.prog 69 #[.int .u8 (w8 c)] w fun e w' => e = .returned (.int .i64 (dgV c)) ∧ w' = w := by
  go_enter Try.func69, Try.ntmps69
  go_wp2_with fail
  refine wp_loop_f 13 (dgI w c) (fun f _ => 16 - (intOf (f 3)).toNat) rfl ?_ ?_
  · exact ⟨rfl, rfl, 0, by omega, rfl, fun v h => by omega⟩
  intro F W hrel
  obtain ⟨h0, rfl, v, hv, h3, HN⟩ := hrel
  have H3 : Hid (F 3 = .int .i64 (v : Nat)) := h3
  rw [frame13, h0, h3]
  clear h0 h3
  by_cases hv16 : v < 16
  · have q1 : (v : Int) < 16 := by omega
    by_cases hc : hexD v = c
    · have hcw : w8 (hexD v) = w8 c := by rw [hc]
      go_wp2_with fail
      go_ret
      refine ⟨?_, rfl⟩
      rw [← hc, dgV_hex v hv16]
      rfl
    · have hcw : ¬ w8 (hexD v) = w8 c := fun e => hc (w8_inj e)
      have hcb : (w8 (hexD v) == w8 c) = false := by simp [hcw]
      go_wp2_with fail
      refine ⟨rfl, rfl, ?_, ?_⟩
      · refine ⟨rfl, rfl, v + 1, by omega, ?_, ?_⟩
        · show Value.int .i64 _ = _
          go_num
        · show ∀ v', _
          intro v' hv'
          by_cases q : v' < v
          · exact HN.out v' q
          · obtain rfl : v' = v := by omega
            exact hc
      · show 16 - (intOf (Value.int .i64 _)).toNat < 16 - (intOf (F 3)).toNat
        rw [H3.out]
        simp [intOf]; omega
  · obtain rfl : v = 16 := by omega
    go_wp2_with fail
    go_ret
    exact ⟨by rw [dgV_none HN.out]; rfl, rfl⟩
set_option maxRecDepth 20000 in
theorem manswer_any (W : World) (b : Nat) (st : GState) (d : Vector UInt8 32) (hb : blk W b = some st.enc) (hf : free W b = true) :
    Calls Try.prog 67 #[.pointer (some ⟨b, 0, none⟩), .agg (arr u8v d).toArray] W fun e W' => e = .returned (.tuple #[]) ∧ Out W W' b ({ st with prev := st.last, last := d } : GState).enc := by
  have hlt := blk_lt hb
  have hne : ¬ b = W.heap.size := by omega
  have hne2 : ¬ W.heap.size = b := by omega
  go_enter Try.func67, Try.ntmps67
  go_wp2_with fail
  go_end0
  refine ⟨rfl, ?_⟩
  exact ((Out.mk0 hb).alloc _).put _ hlt
theorem MAt.answered {w : World} {bm : Nat} {st : GState} {S : PS} {L M : List Ent} {W W' : World} {d : Vector UInt8 32} (h : MAt w bm st S L M W) (ho : Out W W' bm ({ st with prev := st.last, last := d } : GState).enc) :
    MAt w bm { st with prev := st.last, last := d } { S with prev := S.last, last := d } L M W' ∧ MOut bm st { st with prev := st.last, last := d } W W' :=
  h.out ho h.hd h.asd h.ne (fun k q => q) rfl rfl h.ls rfl
set_option maxRecDepth 20000 in
set_option maxHeartbeats 2000000 in
theorem feed_any (w W : World) (bm : Nat) (st : GState) (S : PS) (L M : List Ent) (av : Nat) (a : Option Addr) (len cap : Nat) (ys : List UInt8) (hM : MAt w bm st S L M W) (hX : BytesAt av W a len cap ys) (hl : S.mh.length + len ≤ 70368744177664) :
    Calls Try.prog 66 #[.pointer (some ⟨bm, 0, none⟩), .slice a len cap] W fun e W' => ∃ v' : Sl, e = .returned (.int .i64 0) ∧ MAt w bm { st with hand := v' } { S with mh := S.mh ++ ys } L M W' ∧ MOut bm st { st with hand := v' } W W' := by
  have HM : Hid (MAt w bm st S L M W) := hM
  have hb := hM.blk
  have hf := hM.free
  have hlt := hM.lt
  have hsrc := hX.src (Nat.le_refl len)
  have hyl := hX.1
  rw [List.take_of_length_le (by omega)] at hsrc
  have HSRC : Hid (srcB W a ys.length = some (bv ys)) := by show _ = _; rw [hyl]; exact hsrc
  have HYL : Hid (len = ys.length) := hyl.symm
  obtain ⟨hn, hhn⟩ : ∃ hn, hn = S.mh.length := ⟨_, rfl⟩
  have hhl : st.hand.len = hn := by
    obtain ⟨S', e, hl⟩ := row_val hM.hd
    simp only [Sl.val] at e
    injection e with _ e2 _
    rw [e2, hl, hhn]
  have hsv : Sl.val st.hand = .slice st.hand.a hn st.hand.cap := by rw [← hhl]; rfl
  have HSV : Hid (Sl.val st.hand = .slice st.hand.a hn st.hand.cap) := hsv
  have HHN : Hid (hn = S.mh.length) := hhn
  have k1 : IntKind.i64.wrap ((hn : Int) + (len : Int)) = (hn : Int) + (len : Int) := wraps_i64 _ (by omega) (by omega)
  have k2 : ¬ (2305843009213693951 : Int) < (hn : Int) + (len : Int) := by omega
  clear hM hX hsrc hyl hhn hhl
  go_enter Try.func66, Try.ntmps66
  go_upto_region 3 with fail
  go_wp2_with (at_builtin; refine wpList_append2 rfl _ _ rfl (bm + 1) (Sl.val st.hand) S.mh ys a len cap HSV.out.symm rfl HYL.out HM.out.hd HSRC.out hlt (by have := HYL.out; have := HHN.out; omega) ?_; intro v1 W1 ho1 hg1 hbk1; have hb1 : blk W1 bm = some st.enc := (blk_of_heap (hg1.block bm hlt fun q => by have := (row_ty HM.out.hd bm q.symm).1; omega)).trans hb; have hf1 : free W1 bm = true := (free_of_heap (hg1.block bm hlt fun q => by have := (row_ty HM.out.hd bm q.symm).1; omega)).trans hf; obtain ⟨v', rfl, hvl⟩ := row_val ho1; have HF : Hid _ := HM.out.fed ho1 hg1 hbk1 hb1 hf1; clear ho1 hg1 hbk1 hvl)
  go_ret
  first | exact ⟨v', rfl, HF.out.1, HF.out.2⟩ | exact ⟨rfl, v', HF.out.1, HF.out.2⟩
end Go.Proofs.Qxb6500785a
