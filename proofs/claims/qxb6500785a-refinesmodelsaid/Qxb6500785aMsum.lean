import Derived.Test.Qxb6500785aSched
import Derived.Deep.CutRange
import Derived.Laws.ResultCell
import Derived.Laws.Rows
set_option linter.unusedSimpArgs false
set_option linter.unusedVariables false
namespace Go.Proofs.Qxb6500785a
open Go.RowKit Go.Blk
attribute [local go_sem ↓] execOp_load execOp_store execOp_alloc
attribute [local go_sem] Try.ld24 Try.st24 Try.ld5 Try.st5 Try.ld3 Try.st3 Try.ld27 Try.st27 Try.ld32 Try.st32 Try.ld33 Try.st33 Try.ld4 Try.st4 Try.ld41 Try.st41 Try.ld40 Try.st40 Try.ld42 Try.st42 Try.ld47 Try.st47 Try.ld48 Try.st48 Try.ld57 Try.st57 Try.ld58 Try.st58 Try.ld2 Try.st2 Try.ld9 Try.st9 Try.ld12 Try.st12 Try.ld21 Try.st21 Try.ld22 Try.st22 Try.ld46 Try.st46 Try.ld83 Try.st83 Try.ld95 Try.st95 Try.ld99 Try.st99 Try.ld106 Try.st106 Try.ld108 Try.st108 Try.ld134 Try.st134 Try.ld25 Try.st25 Try.ld26 Try.st26 Try.ld34 Try.st34 Try.ld31 Try.st31 Try.ld30 Try.st30 Try.ld74 Try.st74 Try.ld96 Try.st96 Try.ld101 Try.st101 Try.ld115 Try.st115 Try.ld116 Try.st116 Try.ld120 Try.st120 Try.ld121 Try.st121 Try.ld122 Try.st122 Try.ld29 Try.st29 Try.ld36 Try.st36 Try.ld38 Try.st38 Try.ld44 Try.st44 Try.ld50 Try.st50 Try.ld60 Try.st60 Try.ld110 Try.st110 Try.al25 Try.al26 Try.al34 Try.al31 Try.al30 Try.al74 Try.al96 Try.al101 Try.al115 Try.al116 Try.al120 Try.al121 Try.al122 Try.al29 Try.al36 Try.al38 Try.al44 Try.al50 Try.al60 Try.al110
attribute [local go_sem] Hasher.length_enc Hasher.ok_enc Hasher.all_get Hasher.all_set Hasher.state_get Hasher.state_set Hasher.block_get Hasher.block_set Hasher.fill_get Hasher.fill_set Hasher.length_get Hasher.length_set GLog.length_enc GLog.ok_enc GLog.all_get GLog.all_set GLog.entries_get GLog.entries_set GLog.shelves_get GLog.shelves_set GLog.first_get GLog.first_set GLog.second_get GLog.second_set GLog.found_get GLog.found_set Player.length_enc Player.ok_enc Player.all_get Player.all_set Player.hand_get Player.hand_set Player.aside_get Player.aside_set Player.prev_get Player.prev_set Player.last_get Player.last_set Player.log_get Player.log_set Player.hand_state_get Player.hand_state_set Player.hand_block_get Player.hand_block_set Player.hand_fill_get Player.hand_fill_set Player.hand_length_get Player.hand_length_set Player.aside_state_get Player.aside_state_set Player.aside_block_get Player.aside_block_set Player.aside_fill_get Player.aside_fill_set Player.aside_length_get Player.aside_length_set Player.log_entries_get Player.log_entries_set Player.log_shelves_get Player.log_shelves_set Player.log_first_get Player.log_first_set Player.log_second_get Player.log_second_set Player.log_found_get Player.log_found_set GOp.length_enc GOp.ok_enc GOp.all_get GOp.all_set GOp.kind_get GOp.kind_set GOp.data_get GOp.data_set GOp.cut_get GOp.cut_set GOp.n_get GOp.n_set GOp.b_get GOp.b_set GOp.v_get GOp.v_set GOp.dom_get GOp.dom_set GOp.sum_get GOp.sum_set Answer.length_enc Answer.ok_enc Answer.all_get Answer.all_set Answer.code_get Answer.code_set Answer.sum_get Answer.sum_set Answer.len_get Answer.len_set Answer.mark_get Answer.mark_set Answer.noted_get Answer.noted_set Answer.collided_get Answer.collided_set GState.length_enc GState.ok_enc GState.all_get GState.all_set GState.hand_get GState.hand_set GState.aside_get GState.aside_set GState.prev_get GState.prev_set GState.last_get GState.last_set GState.inputs_get GState.inputs_set GState.sums_get GState.sums_set GState.collided_get GState.collided_set GState.older_get GState.older_set GState.younger_get GState.younger_set Noted.length_enc Noted.ok_enc Noted.all_get Noted.all_set Noted.input_get Noted.input_set Noted.sum_get Noted.sum_set
attribute [local go_sem] size_put size_ext blk_put free_put blk_alloc free_alloc blk_drew free_drew blk_ext free_ext lookOr_some putOr_some segAt_some cellAt_some storeIn_some put_put put_alloc_new length_arr ok_arr_u8 ok_arr_u32 ok_arr_u64 ok_arr_i64 ok_arr_sl cellsV_agg cellsV_int cellsV_bool cellsV_string cellsV_pointer cellsV_slice cellsV_sl ok_int ok_bool ok_string ok_pointer ok_slice ok_sl toList_arr seg_arr set_arr nth_splice nth_splice0 seg_splice seg_splice0 splice_splice splice_splice0 length_splice_if
attribute [local go_sem] w32_and w32_or w32_xor w32_add w32_or8 w32_not w8_and w8_or w8_xor w32_shr2 w32_shl2 w32_shr3 w32_shl3 w32_shr6 w32_shl6 w32_shr7 w32_shl7 w32_shr8 w32_shl8 w32_shr10 w32_shl10 w32_shr11 w32_shl11 w32_shr13 w32_shl13 w32_shr14 w32_shl14 w32_shr15 w32_shl15 w32_shr16 w32_shl16 w32_shr17 w32_shl17 w32_shr18 w32_shl18 w32_shr19 w32_shl19 w32_shr21 w32_shl21 w32_shr22 w32_shl22 w32_shr24 w32_shl24 w32_shr25 w32_shl25 w32_shr26 w32_shl26 w32_shr30 w32_shl30 w8_shl24 w8_shl16 w8_shl8 v32_add v32_byte w32_byte0 v8_shl24 v8_shl16 v8_shl8 v32_shr2 v32_shl2 v32_shr3 v32_shl3 v32_shr6 v32_shl6 v32_shr7 v32_shl7 v32_shr8 v32_shl8 v32_shr10 v32_shl10 v32_shr11 v32_shl11 v32_shr13 v32_shl13 v32_shr14 v32_shl14 v32_shr15 v32_shl15 v32_shr16 v32_shl16 v32_shr17 v32_shl17 v32_shr18 v32_shl18 v32_shr19 v32_shl19 v32_shr21 v32_shl21 v32_shr22 v32_shl22 v32_shr24 v32_shl24 v32_shr25 v32_shl25 v32_shr26 v32_shl26 v32_shr30 v32_shl30
attribute [local go_sem ↓] execOp_build
attribute [local go_sem] run_build_kv run_build_iv nth_arr_u32 put_arr_u32 nth_arr_u8 put_arr_u8 v32_of8 blk_drewN free_drewN put_drewN put_drew blk_raw free_raw
attribute [local go_sem ↓] execOp_slice execOp_copy
attribute [local go_sem] Try.sl40lo Try.sl40hi Try.sl26lo Try.sl26hi Try.sl26 Try.sl96lo Try.sl96hi Try.sl96 Try.sl31lo Try.sl31 Try.sl120 Try.sl121 Try.sl121lo Try.sl121hi Try.cp40 copyOr_some copyIn_some srcB_drew srcB_drewN srcB_raw length_bv one_bv
attribute [local go_sem] Hasher.length_zero
set_option maxRecDepth 100000 in
theorem frame214 (f : Nat → Value) : frameN 214 f = #[f 0, f 1, f 2, f 3, f 4, f 5, f 6, f 7, f 8, f 9, f 10, f 11, f 12, f 13, f 14, f 15, f 16, f 17, f 18, f 19, f 20, f 21, f 22, f 23, f 24, f 25, f 26, f 27, f 28, f 29, f 30, f 31, f 32, f 33, f 34, f 35, f 36, f 37, f 38, f 39, f 40, f 41, f 42, f 43, f 44, f 45, f 46, f 47, f 48, f 49, f 50, f 51, f 52, f 53, f 54, f 55, f 56, f 57, f 58, f 59, f 60, f 61, f 62, f 63, f 64, f 65, f 66, f 67, f 68, f 69, f 70, f 71, f 72, f 73, f 74, f 75, f 76, f 77, f 78, f 79, f 80, f 81, f 82, f 83, f 84, f 85, f 86, f 87, f 88, f 89, f 90, f 91, f 92, f 93, f 94, f 95, f 96, f 97, f 98, f 99, f 100, f 101, f 102, f 103, f 104, f 105, f 106, f 107, f 108, f 109, f 110, f 111, f 112, f 113, f 114, f 115, f 116, f 117, f 118, f 119, f 120, f 121, f 122, f 123, f 124, f 125, f 126, f 127, f 128, f 129, f 130, f 131, f 132, f 133, f 134, f 135, f 136, f 137, f 138, f 139, f 140, f 141, f 142, f 143, f 144, f 145, f 146, f 147, f 148, f 149, f 150, f 151, f 152, f 153, f 154, f 155, f 156, f 157, f 158, f 159, f 160, f 161, f 162, f 163, f 164, f 165, f 166, f 167, f 168, f 169, f 170, f 171, f 172, f 173, f 174, f 175, f 176, f 177, f 178, f 179, f 180, f 181, f 182, f 183, f 184, f 185, f 186, f 187, f 188, f 189, f 190, f 191, f 192, f 193, f 194, f 195, f 196, f 197, f 198, f 199, f 200, f 201, f 202, f 203, f 204, f 205, f 206, f 207, f 208, f 209, f 210, f 211, f 212, f 213] := by kernel_rfl
theorem extends_put {w W : World} (h : w.Extends W) (b : Nat) (X : List Value) (hb : w.heap.size ≤ b) : w.Extends (put W b X) := by
  have hk : ∀ i, i < w.heap.size → (put W b X).heap[i]? = w.heap[i]? := fun i hi => by
    rw [heap_put, if_neg (by omega)]; exact h.block i hi
  exact ⟨h.os, h.tape, h.output, by rw [size_put]; exact h.size, fun a ha => World.cell?_of_block (hk _ ha), fun a ha => World.frozen?_of_block (hk _ ha), hk⟩
theorem extends_drewN {w W : World} (h : w.Extends W) (n : Nat) : w.Extends (W.drewN n) :=
  ⟨h.os, h.tape, h.output, h.size, h.cell, h.frozen, h.block⟩
theorem extends_drew {w W : World} (h : w.Extends W) : w.Extends W.drew :=
  ⟨h.os, h.tape, h.output, h.size, h.cell, h.frozen, h.block⟩
theorem blk_of_heap {w W : World} {b : Nat} (h : W.heap[b]? = w.heap[b]?) : blk W b = blk w b := by unfold blk; rw [h]
theorem free_of_heap {w W : World} {b : Nat} (h : W.heap[b]? = w.heap[b]?) : free W b = free w b := by unfold free; rw [h]
def hK (i : Nat) : Vector UInt32 8 := Vector.ofFn fun j : Fin 8 => if j.val < i then iv[j.val] else 0
theorem hK_zero : hK 0 = Vector.replicate 8 0 := by apply Vector.ext; intro i hi; simp [hK]
theorem hK_all : hK 8 = iv := by apply Vector.ext; intro i hi; simp [hK, hi]
theorem hK_step (i : Nat) (h : i < 8) : (hK i).set i iv[i] h = hK (i + 1) := by
  apply Vector.ext; intro j hj
  rw [Vector.getElem_set]
  by_cases hij : i = j
  · subst hij; simp [hK]
  · have : j < i ↔ j < i + 1 := by omega
    simp [hK, hij, this]
theorem sched_put_low (P : List UInt8) (k t : Nat) (h : t < 16) : (schedV (ring0 P k) t).set t (wordAt P (64 * k + 4 * t)) (by omega) = schedV (ring0 P k) (t + 1) := by
  show _ = if h : t < 64 then _ else _
  rw [dif_pos (by omega)]
  congr 1
  rw [dif_pos h]
  simp [ring0]
theorem sched_put_high (r : Vector UInt32 16) (t u2 u7 u15 u16 : Nat) (h : t < 64) (h2 : u2 + 2 = t) (h7 : u7 + 7 = t) (h15 : u15 + 15 = t) (h16 : u16 + 16 = t) (V : Vector UInt32 64) (hV : schedV r t = V) :
    V.set t (sg1 (V[u2]'(by omega)) + V[u7]'(by omega) + sg0 (V[u15]'(by omega)) + V[u16]'(by omega)) h = schedV r (t + 1) := by
  show _ = if h : t < 64 then _ else _
  rw [dif_pos h, hV]
  congr 1
  rw [dif_neg (by omega), wAt_of, wAt_of, wAt_of, wAt_of]
  rw [show t - 2 = u2 by omega, show t - 7 = u7 by omega, show t - 15 = u15 by omega, show t - 16 = u16 by omega]
theorem kAt_any (w : World) (t : Nat) (h : t < 64) : Calls Try.prog 42 #[.int .i64 (t : Nat)] w fun e w' => e = .returned (.int .u32 (w32 (kAt t))) ∧ w' = w := by
  have := kInt_any w (t : Int)
  rw [kInt_at h, kAt_of h] at this
  exact this
theorem ivAt_any (w : World) (t : Nat) (h : t < 8) : Calls Try.prog 43 #[.int .i64 (t : Nat)] w fun e w' => e = .returned (.int .u32 (w32 iv[t])) ∧ w' = w := by
  have := hInt_any w (t : Int)
  rw [hInt_at h] at this
  exact this
theorem dig_set4 (S : Vector UInt32 8) (i k4 : Nat) (h : i < 8) (hb : k4 + 3 < 32) : k4 = 4 * i →
    ((((digK S i).set k4 (S[i] >>> 24).toUInt8 (by omega)).set (k4 + 1) (S[i] >>> 16).toUInt8 (by omega)).set (k4 + 2) (S[i] >>> 8).toUInt8 (by omega)).set (k4 + 3) S[i].toUInt8 (by omega) = digK S (i + 1) := by
  intro hk
  rw [← digK_step S i h]
  apply Vector.ext; intro j hj
  subst hk
  rw [lay_at _ _ _ _ hj, length_be4]
  simp only [Vector.getElem_set]
  by_cases h1 : 4 * i ≤ j ∧ j < 4 * i + 4
  · rw [if_pos h1]
    have : j = 4 * i ∨ j = 4 * i + 1 ∨ j = 4 * i + 2 ∨ j = 4 * i + 3 := by omega
    rcases this with rfl | rfl | rfl | rfl <;> simp [be4]
  · rw [if_neg h1, if_neg (by omega), if_neg (by omega), if_neg (by omega), if_neg (by omega)]
theorem quo24 (x : UInt32) : Int.tdiv (w32 x) 16777216 = w32 (x >>> 24) := by
  unfold w32; rw [Int.tdiv_eq_ediv_of_nonneg (by omega), UInt32.toNat_shiftRight, Nat.shiftRight_eq_div_pow]; simp
theorem quo16 (x : UInt32) : Int.tdiv (w32 x) 65536 = w32 (x >>> 16) := by
  unfold w32; rw [Int.tdiv_eq_ediv_of_nonneg (by omega), UInt32.toNat_shiftRight, Nat.shiftRight_eq_div_pow]; simp
theorem quo8 (x : UInt32) : Int.tdiv (w32 x) 256 = w32 (x >>> 8) := by
  unfold w32; rw [Int.tdiv_eq_ediv_of_nonneg (by omega), UInt32.toNat_shiftRight, Nat.shiftRight_eq_div_pow]; simp
set_option maxRecDepth 20000 in
set_option maxHeartbeats 2000000 in
theorem word_own (w : World) (bp op len cap i : Nat) (P : List UInt8) (hcell : ∀ j, j < len → cellAt (blk w bp) (op + j) = some (.int .u8 (w8 (byteAt P j)))) (hi : i + 4 ≤ len) (hs : len < 4611686018427387904) :
    Calls Try.prog 58 #[.slice (some ⟨bp, op, none⟩) len cap, .int .i64 (i : Nat)] w fun e w' => e = .returned (.int .u32 (w32 (wordAt P i))) ∧ ∃ n, w' = w.drewN n := by
  have g0 := hcell i (by omega)
  have g1 := hcell (i + 1) (by omega)
  have g2 := hcell (i + 2) (by omega)
  have g3 := hcell (i + 3) (by omega)
  clear hcell
  obtain ⟨x0, hx0⟩ : ∃ x, byteAt P i = x := ⟨_, rfl⟩
  obtain ⟨x1, hx1⟩ : ∃ x, byteAt P (i + 1) = x := ⟨_, rfl⟩
  obtain ⟨x2, hx2⟩ : ∃ x, byteAt P (i + 2) = x := ⟨_, rfl⟩
  obtain ⟨x3, hx3⟩ : ∃ x, byteAt P (i + 3) = x := ⟨_, rfl⟩
  have HW : Hid (wordAt P i = word4 x0 x1 x2 x3) := by show _ = _; rw [← hx0, ← hx1, ← hx2, ← hx3]; rfl
  rw [hx0] at g0
  rw [hx1] at g1
  rw [hx2] at g2
  rw [hx3] at g3
  rw [HW.out, ← word4_add]
  clear hx0 hx1 hx2 hx3 HW
  have v1 : IntKind.i64.wrap ((i : Int) + 1) = (i : Int) + 1 := wraps_i64 _ (by omega) (by omega)
  have v2 : IntKind.i64.wrap ((i : Int) + 2) = (i : Int) + 2 := wraps_i64 _ (by omega) (by omega)
  have v3 : IntKind.i64.wrap ((i : Int) + 3) = (i : Int) + 3 := wraps_i64 _ (by omega) (by omega)
  have t0 : ((i : Int)).toNat = i := by omega
  have t1 : ((i : Int) + 1).toNat = i + 1 := by omega
  have t2 : ((i : Int) + 2).toNat = i + 2 := by omega
  have t3 : ((i : Int) + 3).toNat = i + 3 := by omega
  have p0 : (0 : Int) ≤ (i : Int) := by omega
  have p1 : (0 : Int) ≤ (i : Int) + 1 := by omega
  have p2 : (0 : Int) ≤ (i : Int) + 2 := by omega
  have p3 : (0 : Int) ≤ (i : Int) + 3 := by omega
  have l0 : (i : Int) < (len : Int) := by omega
  have l1 : (i : Int) + 1 < (len : Int) := by omega
  have l2 : (i : Int) + 2 < (len : Int) := by omega
  have l3 : (i : Int) + 3 < (len : Int) := by omega
  have ll : i < len := by omega
  go_enter Try.func58, Try.ntmps58
  go_wp2_with fail
  go_quiet (fail)
  go_wp2_with fail
  go_ret
  exact ⟨rfl, nq, rfl⟩
def msB (w : World) (bp c L bh : Nat) (PC : List Value) (H : Vector UInt32 8) (f : Nat → Value) (W : World) : Prop :=
  f 2 = .pointer (some ⟨w.heap.size, 0, none⟩) ∧ f 3 = .slice (some ⟨bp, 0, none⟩) L c ∧ f 4 = .pointer (some ⟨bh, 0, none⟩) ∧
  blk W w.heap.size = some (arr u8v (Vector.replicate 32 0)) ∧ free W w.heap.size = true ∧ blk W bh = some (arr u32v H) ∧ free W bh = true ∧ blk W bp = some PC ∧ Hid (w.Extends W)
def msI1 (w : World) (bp c L bh : Nat) (PC : List Value) (f : Nat → Value) (W : World) : Prop :=
  ∃ i : Nat, i ≤ 8 ∧ f 5 = .int .i64 (i : Nat) ∧ msB w bp c L bh PC (hK i) f W
def msI2 (w : World) (bp c L bh : Nat) (PC : List Value) (P : List UInt8) (f : Nat → Value) (W : World) : Prop :=
  ∃ k : Nat, k ≤ L / 64 ∧ f 6 = .int .i64 (k : Nat) ∧ msB w bp c L bh PC (compN P iv k) f W
def msI3 (w : World) (bp c L bh : Nat) (PC : List Value) (P : List UInt8) (k bw : Nat) (H : Vector UInt32 8) (f : Nat → Value) (W : World) : Prop :=
  ∃ t : Nat, t ≤ 16 ∧ f 8 = .int .i64 (t : Nat) ∧ f 6 = .int .i64 (k : Nat) ∧ f 7 = .pointer (some ⟨bw, 0, none⟩) ∧ blk W bw = some (arr u32v (schedV (ring0 P k) t)) ∧ free W bw = true ∧ msB w bp c L bh PC H f W
def msI4 (w : World) (bp c L bh : Nat) (PC : List Value) (r : Vector UInt32 16) (k bw : Nat) (H : Vector UInt32 8) (f : Nat → Value) (W : World) : Prop :=
  ∃ t : Nat, 16 ≤ t ∧ t ≤ 64 ∧ f 9 = .int .i64 (t : Nat) ∧ f 6 = .int .i64 (k : Nat) ∧ f 7 = .pointer (some ⟨bw, 0, none⟩) ∧ blk W bw = some (arr u32v (schedV r t)) ∧ free W bw = true ∧ msB w bp c L bh PC H f W
def msI5 (w : World) (bp c L bh : Nat) (PC : List Value) (V : Vector UInt32 64) (k bw : Nat) (H : Vector UInt32 8) (f : Nat → Value) (W : World) : Prop :=
  ∃ t : Nat, t ≤ 64 ∧ f 18 = .int .i64 (t : Nat) ∧ f 6 = .int .i64 (k : Nat) ∧ f 7 = .pointer (some ⟨bw, 0, none⟩) ∧ blk W bw = some (arr u32v V) ∧
    (∃ s : Vector UInt32 8, roundsM V H t = s ∧ f 10 = .int .u32 (w32 s[0]) ∧ f 11 = .int .u32 (w32 s[1]) ∧ f 12 = .int .u32 (w32 s[2]) ∧ f 13 = .int .u32 (w32 s[3]) ∧ f 14 = .int .u32 (w32 s[4]) ∧ f 15 = .int .u32 (w32 s[5]) ∧ f 16 = .int .u32 (w32 s[6]) ∧ f 17 = .int .u32 (w32 s[7])) ∧ msB w bp c L bh PC H f W
def msI6 (w : World) (bp c L bh : Nat) (PC : List Value) (S : Vector UInt32 8) (bd : Nat) (f : Nat → Value) (W : World) : Prop :=
  ∃ i : Nat, i ≤ 8 ∧ f 22 = .int .i64 (i : Nat) ∧ f 21 = .pointer (some ⟨bd, 0, none⟩) ∧ blk W bd = some (arr u8v (digK S i)) ∧ free W bd = true ∧ msB w bp c L bh PC S f W
set_option maxRecDepth 20000 in
set_option maxHeartbeats 4000000 in
theorem msum_any (w : World) (av : Nat) (a : Option Addr) (len cap : Nat) (xs : List UInt8) (hX : BytesAt av w a len cap xs) (hroom : len ≤ 35184372088832) :
    Calls Try.prog 17 #[.slice a len cap] w fun e w' => e = .returned (.agg (arr u8v (sha xs)).toArray) ∧ w.Extends w' := by
  have HX : Hid (BytesAt av w a len cap xs) := hX
  clear hX
  have hn := HX.out.1
  have hpl := length_padM xs
  have hend := endOf_le (xs.length % 64) (by omega)
  go_enter Try.func17, Try.ntmps17
  go_wp2_with fail
  refine (pad_any (w.alloc (.cells (arr u8v (Vector.replicate 32 0)).toArray 31)) (w.heap.size + 1) a len cap xs (HX.out.at_new (fun b hb => by rw [blk_alloc, if_neg (by omega)]) (by omega)) hroom).mono ?_
  rintro e w2 ⟨v, rfl, hown, hext⟩
  obtain ⟨h1, h2 | ⟨bp, c, cur, rfl, hbp, hcur, hLc, hcm, hcs, htk⟩⟩ := hown
  · exfalso; have := h2.2; omega
  rw [World.size_alloc] at hbp
  obtain ⟨P, hP⟩ : ∃ P, P = padM xs := ⟨_, rfl⟩
  obtain ⟨L, hL⟩ : ∃ L, L = P.length := ⟨_, rfl⟩
  have hLs : (padM xs).length ≤ 35184372089000 := by omega
  have hL0 : 64 ≤ (padM xs).length := by omega
  clear hpl hend
  rw [← hP] at hL0 hLs hLc htk h1 ⊢
  rw [← hL] at hL0 hLs hLc htk h1 ⊢
  obtain ⟨PC, hPC⟩ : ∃ PC, PC = cur.toList := ⟨_, rfl⟩
  have hbP := blk_mk hcur
  rw [← hPC] at hbP
  have HC : Hid (∀ j, j < L → PC[j]? = some (.int .u8 (w8 (byteAt P j)))) := by
    intro j hj
    rw [Nat.mul_one, ← hPC] at htk
    have h5 := bv_at P j (by omega)
    rw [← htk, List.getElem?_take, if_pos hj] at h5
    exact h5
  have hE2 : w.Extends w2 := by
    have e0 := (Ext.refl w).alloc (.cells (arr u8v (Vector.replicate 32 (0:UInt8))).toArray 31)
    exact (ext_Ext e0).trans hext
  have hbl : bp < w2.heap.size := blk_lt hbP
  have hr2 : blk w2 w.heap.size = some (arr u8v (Vector.replicate 32 0)) := by
    rw [blk_of_heap (hext.block w.heap.size (by rw [World.size_alloc]; omega)), blk_alloc, if_pos rfl]
  have hrf2 : free w2 w.heap.size = true := by
    rw [free_of_heap (hext.block w.heap.size (by rw [World.size_alloc]; omega)), free_alloc, if_pos rfl]
  have HP : Hid (P = padM xs) := hP
  have HL : Hid (L = P.length) := hL
  have HE2 : Hid (w.Extends w2) := hE2
  clear hP hL hPC htk hcs hcm hcur h1 hext hE2 HX
  have hws : w.heap.size + 1 ≤ bp := hbp
  obtain ⟨bh, hbh⟩ : ∃ bh, bh = w2.heap.size := ⟨_, rfl⟩
  have hbpb : bp < bh := by omega
  go_wp2_with fail
  refine wp_loop_f 214 (msI1 w bp c L bh PC) (fun f _ => 8 - (intOf (f 5)).toNat) rfl ?_ ?_
  · refine ⟨0, by omega, rfl, rfl, rfl, by rw [hbh]; rfl, ?_, ?_, ?_, ?_, ?_, extends_alloc HE2.out _⟩
    · rw [blk_alloc, if_neg (by omega)]; exact hr2
    · rw [free_alloc, if_neg (by omega)]; exact hrf2
    · rw [blk_alloc, if_pos hbh, hK_zero]
    · rw [free_alloc, if_pos hbh]
    · rw [blk_alloc, if_neg (by omega)]; exact hbP
  clear hr2 hrf2 hbP HE2 hbh hbl
  intro F W hrel
  obtain ⟨i, hi, h5, h2, h3, h4, hr, hrf, hh, hhf, hbP, HE⟩ := hrel
  have H5 : Hid (F 5 = .int .i64 (i : Nat)) := h5
  rw [frame214, h2, h3, h4, h5]
  clear h2 h3 h4 h5
  by_cases hi8 : i < 8
  · have q0 : (0 : Int) ≤ (i : Int) := by omega
    have q1 : (i : Int) < 8 := by omega
    have q2 : ((i : Int)).toNat = i := by omega
    go_wp2_with fail
    refine (ivAt_any W i hi8).mono ?_
    rintro e w3 ⟨rfl, rfl⟩
    go_wp2_with fail
    refine ⟨rfl, rfl, ?_, ?_⟩
    · refine ⟨i + 1, by omega, ?_, rfl, rfl, rfl, ?_, ?_, ?_, ?_, ?_, extends_put HE.out _ _ (by omega)⟩
      · show Value.int .i64 _ = _
        go_num
      · rw [blk_put, if_neg (by omega)]; exact hr
      · rw [free_put]; exact hrf
      · rw [blk_put, if_pos rfl, hh, ← hK_step i hi8]; rfl
      · rw [free_put]; exact hhf
      · rw [blk_put, if_neg (by omega)]; exact hbP
    · show 8 - (intOf (Value.int .i64 _)).toNat < 8 - (intOf (F 5)).toNat
      rw [H5.out]
      simp [intOf]; omega
  · obtain rfl : i = 8 := by omega
    rw [hK_all] at hh
    go_wp2_with fail
    refine wp_loop_f 214 (msI2 w bp c L bh PC P) (fun f _ => L / 64 - (intOf (f 6)).toNat) rfl ?_ ?_
    · exact ⟨0, by omega, rfl, rfl, rfl, rfl, hr, hrf, hh, hhf, hbP, HE⟩
    clear hr hrf hh hhf hbP HE H5 hi8 hi
    intro F W hrel
    obtain ⟨k, hk, h6, h2, h3, h4, hr, hrf, hh, hhf, hbP, HE⟩ := hrel
    have H6 : Hid (F 6 = .int .i64 (k : Nat)) := h6
    rw [frame214, h2, h3, h4, h6]
    clear h2 h3 h4 h6
    have r1 : Int.tdiv (L : Int) 64 = ((L / 64 : Nat) : Int) := by rw [Int.tdiv_eq_ediv_of_nonneg (by omega)]; omega
    obtain ⟨K, hK⟩ : ∃ K, K = L / 64 := ⟨_, rfl⟩
    rw [← hK] at r1 hk ⊢
    have hKs : 64 * K ≤ L := by omega
    have HKK : Hid (K = L / 64) := hK
    clear hK
    obtain ⟨H, hH⟩ : ∃ H, H = compN P iv k := ⟨_, rfl⟩
    rw [← hH] at hh
    have HH : Hid (H = compN P iv k) := hH
    clear hH
    by_cases hkK : k < K
    · go_wp2_with fail
      have hbwb : bp < W.heap.size := blk_lt hbP
      have hhl : bh < W.heap.size := blk_lt hh
      have hrl : w.heap.size < W.heap.size := blk_lt hr
      refine wp_loop_f 214 (msI3 w bp c L bh PC P k W.heap.size H) (fun f _ => 16 - (intOf (f 8)).toNat) rfl ?_ ?_
      · refine ⟨0, by omega, rfl, rfl, rfl, ?_, ?_, rfl, rfl, rfl, ?_, ?_, ?_, ?_, ?_, extends_alloc HE.out _⟩
        · rw [blk_alloc, if_pos rfl]; rfl
        · rw [free_alloc, if_pos rfl]
        · rw [blk_alloc, if_neg (by omega)]; exact hr
        · rw [free_alloc, if_neg (by omega)]; exact hrf
        · rw [blk_alloc, if_neg (by omega)]; exact hh
        · rw [free_alloc, if_neg (by omega)]; exact hhf
        · rw [blk_alloc, if_neg (by omega)]; exact hbP
      obtain ⟨bw, hbw⟩ : ∃ bw, bw = W.heap.size := ⟨_, rfl⟩
      rw [← hbw] at hbwb hhl hrl ⊢
      clear hr hrf hh hhf hbP HE hbw
      intro F3 W3 hrel
      obtain ⟨t, ht, h8, h6, h7, hw, hwf, h2, h3, h4, hr, hrf, hh, hhf, hbP, HE⟩ := hrel
      have H8 : Hid (F3 8 = .int .i64 (t : Nat)) := h8
      rw [frame214, h2, h3, h4, h6, h7, h8]
      clear h2 h3 h4 h6 h7 h8
      by_cases ht16 : t < 16
      · obtain ⟨s, hs⟩ : ∃ s, s = 64 * k + 4 * t := ⟨_, rfl⟩
        obtain ⟨k64, hk64⟩ : ∃ k64, k64 = 64 * k := ⟨_, rfl⟩
        obtain ⟨t4, ht4⟩ : ∃ t4, t4 = 4 * t := ⟨_, rfl⟩
        have e1 : IntKind.i64.wrap (64 * (k : Int)) = (k64 : Int) := by rw [wraps_i64 _ (by omega) (by omega)]; omega
        have e2 : IntKind.i64.wrap (4 * (t : Int)) = (t4 : Int) := by rw [wraps_i64 _ (by omega) (by omega)]; omega
        have e3 : IntKind.i64.wrap ((k64 : Int) + (t4 : Int)) = (s : Int) := by rw [wraps_i64 _ (by omega) (by omega)]; omega
        have hs4 : s + 4 ≤ L := by omega
        have HSS : Hid (s = 64 * k + 4 * t) := hs
        have q0 : (0 : Int) ≤ (t : Int) := by omega
        have q1 : (t : Int) < 64 := by omega
        have q2 : ((t : Int)).toNat = t := by omega
        have q3 : t < 64 := by omega
        clear hs hk64 ht4
        go_wp2_with fail
        refine (word_own W3 bp 0 L c s P (fun j hj => by rw [hbP, cellAt_some, Nat.zero_add]; exact HC.out j hj) hs4 (by omega)).mono ?_
        rintro e w4 ⟨rfl, n4, rfl⟩
        go_wp2_with fail
        refine ⟨rfl, rfl, ?_, ?_⟩
        · refine ⟨t + 1, by omega, ?_, rfl, rfl, ?_, ?_, rfl, rfl, rfl, ?_, ?_, ?_, ?_, ?_, ?_⟩
          · show Value.int .i64 _ = _
            go_num
          · rw [← sched_put_low P k t ht16, ← HSS.out]
            simp only [blk_drewN, blk_put, if_true, hw, Option.map_some]
          · simp only [free_drewN, free_put]; exact hwf
          · simp only [blk_drewN, blk_put]; rw [if_neg (by omega)]; exact hr
          · simp only [free_drewN, free_put]; exact hrf
          · simp only [blk_drewN, blk_put]; rw [if_neg (by omega)]; exact hh
          · simp only [free_drewN, free_put]; exact hhf
          · simp only [blk_drewN, blk_put]; rw [if_neg (by omega)]; exact hbP
          · repeat (first | exact HE.out | refine extends_drewN ?_ _ | refine extends_put ?_ _ _ (by omega))
        · show 16 - (intOf (Value.int .i64 _)).toNat < 16 - (intOf (F3 8)).toNat
          rw [H8.out]
          simp [intOf]; omega
      obtain rfl : t = 16 := by omega
      clear H8 ht ht16
      obtain ⟨r, hr0⟩ : ∃ r, r = ring0 P k := ⟨_, rfl⟩
      rw [← hr0] at hw
      have HR0 : Hid (r = ring0 P k) := hr0
      clear hr0
      go_wp2_with fail
      refine wp_loop_f 214 (msI4 w bp c L bh PC r k bw H) (fun f _ => 64 - (intOf (f 9)).toNat) rfl ?_ ?_
      · exact ⟨16, by omega, by omega, rfl, rfl, rfl, hw, hwf, rfl, rfl, rfl, hr, hrf, hh, hhf, hbP, HE⟩
      clear hr hrf hh hhf hbP HE hw hwf
      intro F4 W4 hrel
      obtain ⟨t, ht6, ht, h9, h6, h7, hw, hwf, h2, h3, h4, hr, hrf, hh, hhf, hbP, HE⟩ := hrel
      have H9 : Hid (F4 9 = .int .i64 (t : Nat)) := h9
      rw [frame214, h2, h3, h4, h6, h7, h9]
      clear h2 h3 h4 h6 h7 h9
      by_cases ht64 : t < 64
      · obtain ⟨V, hV⟩ : ∃ V, schedV r t = V := ⟨_, rfl⟩
        rw [hV] at hw
        have HVV : Hid (schedV r t = V) := hV
        obtain ⟨u2, hu2⟩ : ∃ u, u + 2 = t := ⟨t - 2, by omega⟩
        obtain ⟨u7, hu7⟩ : ∃ u, u + 7 = t := ⟨t - 7, by omega⟩
        obtain ⟨u15, hu15⟩ : ∃ u, u + 15 = t := ⟨t - 15, by omega⟩
        obtain ⟨u16, hu16⟩ : ∃ u, u + 16 = t := ⟨t - 16, by omega⟩
        have e2 : IntKind.i64.wrap ((t : Int) - 2) = (u2 : Int) := by rw [wraps_i64 _ (by omega) (by omega)]; omega
        have e7 : IntKind.i64.wrap ((t : Int) - 7) = (u7 : Int) := by rw [wraps_i64 _ (by omega) (by omega)]; omega
        have e15 : IntKind.i64.wrap ((t : Int) - 15) = (u15 : Int) := by rw [wraps_i64 _ (by omega) (by omega)]; omega
        have e16 : IntKind.i64.wrap ((t : Int) - 16) = (u16 : Int) := by rw [wraps_i64 _ (by omega) (by omega)]; omega
        have a0 : (0 : Int) ≤ (t : Int) := by omega
        have a1 : (t : Int) < 64 := by omega
        have a2 : ((t : Int)).toNat = t := by omega
        have b0 : (0 : Int) ≤ (u2 : Int) := by omega
        have b1 : (u2 : Int) < 64 := by omega
        have b2 : ((u2 : Int)).toNat = u2 := by omega
        have b3 : u2 < 64 := by omega
        have c0 : (0 : Int) ≤ (u7 : Int) := by omega
        have c1 : (u7 : Int) < 64 := by omega
        have c2 : ((u7 : Int)).toNat = u7 := by omega
        have c3 : u7 < 64 := by omega
        have d0 : (0 : Int) ≤ (u15 : Int) := by omega
        have d1 : (u15 : Int) < 64 := by omega
        have d2 : ((u15 : Int)).toNat = u15 := by omega
        have d3 : u15 < 64 := by omega
        have f0 : (0 : Int) ≤ (u16 : Int) := by omega
        have f1 : (u16 : Int) < 64 := by omega
        have f2 : ((u16 : Int)).toNat = u16 := by omega
        have f3 : u16 < 64 := by omega
        have HPUT : Hid (V.set t (sg1 (V[u2]) + V[u7] + sg0 (V[u15]) + V[u16]) ht64 = schedV r (t + 1)) := sched_put_high r t u2 u7 u15 u16 ht64 hu2 hu7 hu15 hu16 V hV
        clear hV hu2 hu7 hu15 hu16
        go_wp2_with fail
        refine wp_region_still_tail 23 Try.mixed (by kernel_rfl) ?_
        simp only [List.take_succ_cons, List.take_zero, List.drop_succ_cons, List.drop_zero]
        iterate 5 still_step
        still_call (sg1_any _ _)
        iterate 9 still_step
        still_call (sg0_any _ _)
        iterate 7 still_step
        refine wpStill_nil ?_
        go_wp2_with fail
        refine ⟨rfl, rfl, ?_, ?_⟩
        · refine ⟨t + 1, by omega, by omega, ?_, rfl, rfl, ?_, ?_, rfl, rfl, rfl, ?_, ?_, ?_, ?_, ?_, ?_⟩
          · show Value.int .i64 _ = _
            go_num
          · rw [← HPUT.out]
            simp only [blk_drew, blk_put, if_true, hw, Option.map_some]
          · simp only [free_drew, free_put]; exact hwf
          · simp only [blk_drew, blk_put]; rw [if_neg (by omega)]; exact hr
          · simp only [free_drew, free_put]; exact hrf
          · simp only [blk_drew, blk_put]; rw [if_neg (by omega)]; exact hh
          · simp only [free_drew, free_put]; exact hhf
          · simp only [blk_drew, blk_put]; rw [if_neg (by omega)]; exact hbP
          · repeat (first | exact HE.out | refine extends_drew ?_ | refine extends_put ?_ _ _ (by omega))
        · show 64 - (intOf (Value.int .i64 _)).toNat < 64 - (intOf (F4 9)).toNat
          rw [H9.out]
          simp [intOf]; omega
      obtain rfl : t = 64 := by omega
      clear H9 ht ht64 ht6
      obtain ⟨V, hV⟩ : ∃ V, V = schedV r 64 := ⟨_, rfl⟩
      rw [← hV] at hw
      have HVV : Hid (V = schedV r 64) := hV
      clear hV
      go_wp2_with fail
      refine wp_loop_f 214 (msI5 w bp c L bh PC V k bw H) (fun f _ => 64 - (intOf (f 18)).toNat) rfl ?_ ?_
      · exact ⟨0, by omega, rfl, rfl, rfl, hw, ⟨H, rfl, rfl, rfl, rfl, rfl, rfl, rfl, rfl, rfl⟩, rfl, rfl, rfl, hr, hrf, hh, hhf, hbP, HE⟩
      clear hr hrf hh hhf hbP HE hw hwf
      intro F5 W5 hrel
      obtain ⟨t, ht, h18, h6, h7, hw, ⟨s, hs, h10, h11, h12, h13, h14, h15, h16, h17⟩, h2, h3, h4, hr, hrf, hh, hhf, hbP, HE⟩ := hrel
      have H18 : Hid (F5 18 = .int .i64 (t : Nat)) := h18
      have HS : Hid (roundsM V H t = s) := hs
      rw [frame214, h2, h3, h4, h6, h7, h10, h11, h12, h13, h14, h15, h16, h17, h18]
      clear h2 h3 h4 h6 h7 h10 h11 h12 h13 h14 h15 h16 h17 h18 hs
      by_cases ht64 : t < 64
      · have a0 : (0 : Int) ≤ (t : Int) := by omega
        have a1 : (t : Int) < 64 := by omega
        have a2 : ((t : Int)).toNat = t := by omega
        go_wp2_with fail
        go_quiet (first | exact Calls.quiet_of_same (bg1_any _ _) | exact Calls.quiet_of_same (chF_any _ _ _ _) | exact Calls.quiet_of_same (kAt_any _ t ht64))
        go_wp2_with fail
        refine (bg0_any _ _).mono ?_
        rintro e w6 ⟨rfl, rfl⟩
        go_wp2_with fail
        refine (majF_any _ _ _ _).mono ?_
        rintro e w6 ⟨rfl, rfl⟩
        go_wp2_with fail
        refine ⟨rfl, rfl, ?_, ?_⟩
        · refine ⟨t + 1, by omega, ?_, rfl, rfl, hw, ⟨roundM (kAt t) (wAt V t) s, ?_, ?_, rfl, rfl, rfl, ?_, rfl, rfl, rfl⟩, rfl, rfl, rfl, hr, hrf, hh, hhf, hbP, ?_⟩
          · show Value.int .i64 _ = _
            go_num
          · show roundM (kAt t) (wAt V t) (roundsM V H t) = _
            rw [HS.out]
          · rw [← wAt_of V t ht64]; rfl
          · rw [← wAt_of V t ht64]; rfl
          · repeat (first | exact HE.out | refine extends_drewN ?_ _)
        · show 64 - (intOf (Value.int .i64 _)).toNat < 64 - (intOf (F5 18)).toNat
          rw [H18.out]
          simp [intOf]; omega
      obtain rfl : t = 64 := by omega
      clear H18 ht ht64
      have HV1 : Hid (addV H s = compN P iv (k + 1)) := by
        show _ = _
        rw [comp_rounds, ← HH.out, ← HR0.out, ← HVV.out, HS.out]
      have ha0 : blk W5 bh = some (arr u32v (addK H s 0)) := by rw [addK_zero]; exact hh
      clear hh
      go_wp2_with fail
      have hfin : addK H s 8 = compN P iv (k + 1) := by rw [addK_all]; exact HV1.out
      have HFIN : Hid (addK H s 8 = compN P iv (k + 1)) := hfin
      clear hfin
      refine ⟨rfl, rfl, ?_, ?_⟩
      · refine ⟨k + 1, by omega, ?_, rfl, rfl, rfl, ?_, ?_, ?_, ?_, ?_, ?_⟩
        · show Value.int .i64 _ = _
          go_num
        · simp only [blk_put]; rw [if_neg (by omega)]; exact hr
        · simp only [free_put]; exact hrf
        · simp only [blk_put, if_true, ha0, Option.map_some]
          rw [← HV1.out]
          refine congrArg (fun v => some (arr u32v v)) ?_
          apply Vector.ext
          intro j hj
          have : j = 0 ∨ j = 1 ∨ j = 2 ∨ j = 3 ∨ j = 4 ∨ j = 5 ∨ j = 6 ∨ j = 7 := by omega
          rcases this with rfl | rfl | rfl | rfl | rfl | rfl | rfl | rfl <;> (simp [addV, addK]; exact UInt32.add_comm _ _)
        · simp only [free_put]; exact hhf
        · simp only [blk_put]; rw [if_neg (by omega)]; exact hbP
        · repeat (first | exact HE.out | refine extends_put ?_ _ _ (by omega))
      · show K - (intOf (Value.int .i64 _)).toNat < K - (intOf (F 6)).toNat
        rw [H6.out]
        simp [intOf]; omega
    · obtain rfl : k = K := by omega
      have HS2 : Hid (sha xs = digV H) := by
        show _ = _
        rw [sha, ← HP.out, ← HL.out, ← HKK.out, HH.out]
      have hhl : bh < W.heap.size := blk_lt hh
      go_wp2_with fail
      refine wp_loop_f 214 (msI6 w bp c L bh PC H W.heap.size) (fun f _ => 8 - (intOf (f 22)).toNat) rfl ?_ ?_
      · refine ⟨0, by omega, rfl, rfl, ?_, ?_, rfl, rfl, rfl, ?_, ?_, ?_, ?_, ?_, extends_alloc HE.out _⟩
        · rw [blk_alloc, if_pos rfl, digK_zero]
        · rw [free_alloc, if_pos rfl]
        · rw [blk_alloc, if_neg (by omega)]; exact hr
        · rw [free_alloc, if_neg (by omega)]; exact hrf
        · rw [blk_alloc, if_neg (by omega)]; exact hh
        · rw [free_alloc, if_neg (by omega)]; exact hhf
        · rw [blk_alloc, if_neg (by omega)]; exact hbP
      obtain ⟨bd, hbd⟩ : ∃ bd, bd = W.heap.size := ⟨_, rfl⟩
      rw [← hbd] at hhl ⊢
      clear hr hrf hh hhf hbP HE hbd
      intro F6 W6 hrel
      obtain ⟨i, hi, h22, h21, hd, hdf, h2, h3, h4, hr, hrf, hh, hhf, hbP, HE⟩ := hrel
      have H22 : Hid (F6 22 = .int .i64 (i : Nat)) := h22
      rw [frame214, h2, h3, h4, h21, h22]
      clear h2 h3 h4 h21 h22
      by_cases hi8 : i < 8
      · obtain ⟨k4, hk4⟩ : ∃ k4, k4 = 4 * i := ⟨_, rfl⟩
        have e1 : IntKind.i64.wrap (4 * (i : Int)) = (k4 : Int) := by rw [wraps_i64 _ (by omega) (by omega)]; omega
        have q0 : (0 : Int) ≤ (i : Int) := by omega
        have q1 : (i : Int) < 8 := by omega
        have q2 : ((i : Int)).toNat = i := by omega
        have hk29 : k4 + 3 < 32 := by omega
        have HD4 := dig_set4 H i k4 hi8 hk29 hk4
        have HD5 : Hid _ := HD4
        have z1 := quo24 H[i]
        have z2 := quo16 H[i]
        have z3 := quo8 H[i]
        have hnb : ¬ bh = bd := by omega
        clear hk4 HD4
        go_wp2_with fail
        refine ⟨rfl, rfl, ?_, ?_⟩
        · refine ⟨i + 1, by omega, ?_, rfl, ?_, ?_, rfl, rfl, rfl, ?_, ?_, ?_, ?_, ?_, ?_⟩
          · show Value.int .i64 _ = _
            go_num
          · rw [← HD5.out]
            simp only [blk_put, if_true, hd, Option.map_some]
            rw [put_arr_u8 _ _ (by omega), put_arr_u8 _ _ (by omega), put_arr_u8 _ _ (by omega), put_arr_u8 _ _ (by omega)]
          · simp only [free_put]; exact hdf
          · simp only [blk_put]; rw [if_neg (by omega)]; exact hr
          · simp only [free_put]; exact hrf
          · simp only [blk_put]; rw [if_neg (by omega)]; exact hh
          · simp only [free_put]; exact hhf
          · simp only [blk_put]; rw [if_neg (by omega)]; exact hbP
          · repeat (first | exact HE.out | refine extends_put ?_ _ _ (by omega))
        · show 8 - (intOf (Value.int .i64 _)).toNat < 8 - (intOf (F6 22)).toNat
          rw [H22.out]
          simp [intOf]; omega
      · obtain rfl : i = 8 := by omega
        have hne1 : ¬ bd = w.heap.size := by omega
        go_wp2_with fail
        refine ret_cell rfl rfl (by rw [blk_put, if_pos rfl, hr]; rfl) (by kernel_rfl) (by rw [length_arr]; kernel_rfl) rfl ?_
        rw [HS2.out]
        exact ⟨rfl, extends_put HE.out _ _ (Nat.le_refl _)⟩
end Go.Proofs.Qxb6500785a
