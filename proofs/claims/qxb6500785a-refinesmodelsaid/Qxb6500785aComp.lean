import Derived.Test.Qxb6500785aSha
import Derived.Test.Qxb6500785aLoop
import Derived.StillTailTactics
import Derived.Deep.QuietTactic
import Derived.BigQuiet
set_option linter.unusedSimpArgs false
set_option linter.unusedVariables false
namespace Go.Proofs.Qxb6500785a
open Go.RowKit Go.Blk
theorem blk_raw (w : World) (t : Nat → Question → Nat) (d : Nat) (os : Os) (u : Array (Nat × ByteArray)) (b : Nat) : blk ⟨w.heap, t, d, os, u⟩ b = blk w b := rfl
theorem free_raw (w : World) (t : Nat → Question → Nat) (d : Nat) (os : Os) (u : Array (Nat × ByteArray)) (b : Nat) : free ⟨w.heap, t, d, os, u⟩ b = free w b := rfl
theorem blk_drewN (w : World) (n b : Nat) : blk (w.drewN n) b = blk w b := rfl
theorem free_drewN (w : World) (n b : Nat) : free (w.drewN n) b = free w b := rfl
theorem put_drewN (w : World) (n b : Nat) (D : List Value) : put (w.drewN n) b D = (put w b D).drewN n := rfl
theorem _root_.Go.Blk.Out.drewN {w w' : World} {b : Nat} {X : List Value} (h : Out w w' b X) (n : Nat) : Out w (w'.drewN n) b X := by obtain ⟨G, m, rfl⟩ := h; exact ⟨G, m + n, by simp [ext, World.drewN, Nat.add_assoc]⟩
theorem _root_.Go.Blk.Out.cast {w w' : World} {b : Nat} {X Y : List Value} (h : Out w w' b X) (e : X = Y) : Out w w' b Y := e ▸ h
theorem v32_of8 (x : UInt8) : IntKind.u32.wrap (w8 x) = w32 x.toUInt32 := by
  rw [IntKind.wrap_u32]; unfold w8 w32; have := w8_lt x; simp; omega
theorem wraps_i64 (n : Int) (h₀ : 0 ≤ n) (h₁ : n < 2 ^ 63) : IntKind.i64.wrap n = n := by rw [IntKind.wrap_i64]; omega
theorem and15 (n : Nat) (h : n < 1000) : bits .and .i64 (n : Int) 15 = ((n % 16 : Nat) : Int) := by
  have := bits_mask .i64 63 (by decide) wraps_i64 4 (by decide) (n : Int) (by omega) (by omega)
  simpa using this
attribute [local go_sem ↓] execOp_load execOp_store execOp_alloc
attribute [local go_sem] Try.ld24 Try.st24 Try.ld5 Try.st5 Try.ld3 Try.st3 Try.ld27 Try.st27 Try.ld32 Try.st32 Try.ld33 Try.st33 Try.ld4 Try.st4 Try.ld41 Try.st41 Try.ld40 Try.st40 Try.ld42 Try.st42 Try.ld47 Try.st47 Try.ld48 Try.st48 Try.ld57 Try.st57 Try.ld58 Try.st58 Try.ld2 Try.st2 Try.ld9 Try.st9 Try.ld12 Try.st12 Try.ld21 Try.st21 Try.ld22 Try.st22 Try.ld46 Try.st46 Try.ld83 Try.st83 Try.ld95 Try.st95 Try.ld99 Try.st99 Try.ld106 Try.st106 Try.ld108 Try.st108 Try.ld134 Try.st134 Try.ld25 Try.st25 Try.ld26 Try.st26 Try.ld34 Try.st34 Try.ld31 Try.st31 Try.ld30 Try.st30 Try.ld74 Try.st74 Try.ld96 Try.st96 Try.ld101 Try.st101 Try.ld115 Try.st115 Try.ld116 Try.st116 Try.ld120 Try.st120 Try.ld121 Try.st121 Try.ld122 Try.st122 Try.ld29 Try.st29 Try.ld36 Try.st36 Try.ld38 Try.st38 Try.ld44 Try.st44 Try.ld50 Try.st50 Try.ld60 Try.st60 Try.ld110 Try.st110 Try.al25 Try.al26 Try.al34 Try.al31 Try.al30 Try.al74 Try.al96 Try.al101 Try.al115 Try.al116 Try.al120 Try.al121 Try.al122 Try.al29 Try.al36 Try.al38 Try.al44 Try.al50 Try.al60 Try.al110
attribute [local go_sem] Hasher.length_enc Hasher.ok_enc Hasher.all_get Hasher.all_set Hasher.state_get Hasher.state_set Hasher.block_get Hasher.block_set Hasher.fill_get Hasher.fill_set Hasher.length_get Hasher.length_set GLog.length_enc GLog.ok_enc GLog.all_get GLog.all_set GLog.entries_get GLog.entries_set GLog.shelves_get GLog.shelves_set GLog.first_get GLog.first_set GLog.second_get GLog.second_set GLog.found_get GLog.found_set Player.length_enc Player.ok_enc Player.all_get Player.all_set Player.hand_get Player.hand_set Player.aside_get Player.aside_set Player.prev_get Player.prev_set Player.last_get Player.last_set Player.log_get Player.log_set Player.hand_state_get Player.hand_state_set Player.hand_block_get Player.hand_block_set Player.hand_fill_get Player.hand_fill_set Player.hand_length_get Player.hand_length_set Player.aside_state_get Player.aside_state_set Player.aside_block_get Player.aside_block_set Player.aside_fill_get Player.aside_fill_set Player.aside_length_get Player.aside_length_set Player.log_entries_get Player.log_entries_set Player.log_shelves_get Player.log_shelves_set Player.log_first_get Player.log_first_set Player.log_second_get Player.log_second_set Player.log_found_get Player.log_found_set GOp.length_enc GOp.ok_enc GOp.all_get GOp.all_set GOp.kind_get GOp.kind_set GOp.data_get GOp.data_set GOp.cut_get GOp.cut_set GOp.n_get GOp.n_set GOp.b_get GOp.b_set GOp.v_get GOp.v_set GOp.dom_get GOp.dom_set GOp.sum_get GOp.sum_set Answer.length_enc Answer.ok_enc Answer.all_get Answer.all_set Answer.code_get Answer.code_set Answer.sum_get Answer.sum_set Answer.len_get Answer.len_set Answer.mark_get Answer.mark_set Answer.noted_get Answer.noted_set Answer.collided_get Answer.collided_set GState.length_enc GState.ok_enc GState.all_get GState.all_set GState.hand_get GState.hand_set GState.aside_get GState.aside_set GState.prev_get GState.prev_set GState.last_get GState.last_set GState.inputs_get GState.inputs_set GState.sums_get GState.sums_set GState.collided_get GState.collided_set GState.older_get GState.older_set GState.younger_get GState.younger_set Noted.length_enc Noted.ok_enc Noted.all_get Noted.all_set Noted.input_get Noted.input_set Noted.sum_get Noted.sum_set
attribute [local go_sem] size_put size_ext blk_put free_put blk_alloc free_alloc blk_drew free_drew blk_ext free_ext lookOr_some putOr_some segAt_some cellAt_some storeIn_some put_put put_alloc_new length_arr ok_arr_u8 ok_arr_u32 ok_arr_u64 ok_arr_i64 ok_arr_sl cellsV_agg cellsV_int cellsV_bool cellsV_string cellsV_pointer cellsV_slice cellsV_sl ok_int ok_bool ok_string ok_pointer ok_slice ok_sl toList_arr seg_arr set_arr nth_splice nth_splice0 seg_splice seg_splice0 splice_splice splice_splice0 length_splice_if
attribute [local go_sem] w32_and w32_or w32_xor w32_add w32_or8 w32_not w8_and w8_or w8_xor w32_shr2 w32_shl2 w32_shr3 w32_shl3 w32_shr6 w32_shl6 w32_shr7 w32_shl7 w32_shr8 w32_shl8 w32_shr10 w32_shl10 w32_shr11 w32_shl11 w32_shr13 w32_shl13 w32_shr14 w32_shl14 w32_shr15 w32_shl15 w32_shr16 w32_shl16 w32_shr17 w32_shl17 w32_shr18 w32_shl18 w32_shr19 w32_shl19 w32_shr21 w32_shl21 w32_shr22 w32_shl22 w32_shr24 w32_shl24 w32_shr25 w32_shl25 w32_shr26 w32_shl26 w32_shr30 w32_shl30 w8_shl24 w8_shl16 w8_shl8 v32_add v32_byte w32_byte0 v8_shl24 v8_shl16 v8_shl8 v32_shr2 v32_shl2 v32_shr3 v32_shl3 v32_shr6 v32_shl6 v32_shr7 v32_shl7 v32_shr8 v32_shl8 v32_shr10 v32_shl10 v32_shr11 v32_shl11 v32_shr13 v32_shl13 v32_shr14 v32_shl14 v32_shr15 v32_shl15 v32_shr16 v32_shl16 v32_shr17 v32_shl17 v32_shr18 v32_shl18 v32_shr19 v32_shl19 v32_shr21 v32_shl21 v32_shr22 v32_shl22 v32_shr24 v32_shl24 v32_shr25 v32_shl25 v32_shr26 v32_shl26 v32_shr30 v32_shl30
attribute [local go_sem ↓] execOp_build
attribute [local go_sem] run_build_kv run_build_iv nth_arr_u32 put_arr_u32 nth_arr_u8 put_arr_u8 v32_of8 blk_drewN free_drewN put_drewN put_drew blk_raw free_raw
theorem Try.mixed : Try.prog.follows .mixedOrders = true := by kernel_rfl
def word4 (a b c d : UInt8) : UInt32 := a.toUInt32 <<< 24 ||| b.toUInt32 <<< 16 ||| c.toUInt32 <<< 8 ||| d.toUInt32
def byteAt (data : List UInt8) (i : Nat) : UInt8 := data.getD i 0
def wordAt (data : List UInt8) (i : Nat) : UInt32 := word4 (byteAt data i) (byteAt data (i + 1)) (byteAt data (i + 2)) (byteAt data (i + 3))
def lenV : Value → Nat
  | .slice _ n _ => n
  | _ => 0
/-- One round; the ring's step; t rounds; a block; all blocks. -/
def mixV (k x : UInt32) (s : Vector UInt32 8) : Vector UInt32 8 :=
  #v[s[7] + bg1 s[4] + (s[6] ^^^ s[4] &&& (s[5] ^^^ s[6])) + k + x + (bg0 s[0] + (s[0] &&& s[1] ||| s[2] &&& (s[0] ||| s[1]))), s[0], s[1], s[2],
     s[3] + (s[7] + bg1 s[4] + (s[6] ^^^ s[4] &&& (s[5] ^^^ s[6])) + k + x), s[4], s[5], s[6]]
def ringStep (t : Nat) (r : Vector UInt32 16) : Vector UInt32 16 :=
  if 16 ≤ t then r.set (t % 16) (r[t % 16] + (sg0 r[(t + 1) % 16] + r[(t + 9) % 16] + sg1 r[(t + 14) % 16])) else r
def kAt (t : Nat) : UInt32 := kv.toList.getD t 0
def runR (r0 : Vector UInt32 16) (s0 : Vector UInt32 8) : Nat → Vector UInt32 16 × Vector UInt32 8
  | 0 => (r0, s0)
  | t + 1 => (ringStep t (runR r0 s0 t).1, mixV (kAt t) ((ringStep t (runR r0 s0 t).1)[t % 16]) (runR r0 s0 t).2)
def addV (a b : Vector UInt32 8) : Vector UInt32 8 := #v[a[0] + b[0], a[1] + b[1], a[2] + b[2], a[3] + b[3], a[4] + b[4], a[5] + b[5], a[6] + b[6], a[7] + b[7]]
def addK (s v : Vector UInt32 8) (i : Nat) : Vector UInt32 8 := Vector.ofFn fun j : Fin 8 => if j.val < i then s[j.val] + v[j.val] else s[j.val]
theorem addK_zero (s v : Vector UInt32 8) : addK s v 0 = s := by apply Vector.ext; intro i hi; simp [addK]
theorem addK_all (s v : Vector UInt32 8) : addK s v 8 = addV s v := by
  apply Vector.ext; intro i hi
  have : i = 0 ∨ i = 1 ∨ i = 2 ∨ i = 3 ∨ i = 4 ∨ i = 5 ∨ i = 6 ∨ i = 7 := by omega
  rcases this with rfl | rfl | rfl | rfl | rfl | rfl | rfl | rfl <;> simp [addK, addV]
theorem addK_step (s v : Vector UInt32 8) (i : Nat) (h : i < 8) : (addK s v i).set i ((addK s v i)[i] + v[i]) h = addK s v (i + 1) := by
  apply Vector.ext; intro j hj
  rw [Vector.getElem_set]
  by_cases hij : i = j
  · subst hij; simp [addK]
  · have : j < i ↔ j < i + 1 := by omega
    simp [addK, hij, this]
theorem wp_world {P : Program} {c : Code} {Q : Exit → Act → World → Prop} {a : Act} {W : World} (F : World → Prop) (hF : F W) (h : ∀ W', F W' → Code.wp P c Q a W') : Code.wp P c Q a W := h W hF
theorem slice_eq {a : Addr} {n n' c c' : Nat} (h : n = n') (h' : c = c') : Value.slice (some a) n c = .slice (some a) n' c' := by rw [h, h']
def ring0 (data : List UInt8) (k : Nat) : Vector UInt32 16 := Vector.ofFn fun i : Fin 16 => wordAt data (64 * k + 4 * i.val)
def compN (data : List UInt8) (st : Vector UInt32 8) : Nat → Vector UInt32 8
  | 0 => st
  | k + 1 => addV (compN data st k) (runR (ring0 data k) (compN data st k) 64).2
theorem kAt_of {t : Nat} (h : t < 64) : kv[t] = kAt t := by simp [kAt, h]
theorem ring0_of {data : List UInt8} {k : Nat} {r : Vector UInt32 16} (h : ∀ j (h : j < 16), r[j] = wordAt data (64 * k + 4 * j)) : r = ring0 data k := by
  apply Vector.ext
  intro i hi
  rw [h i hi]; simp [ring0]
set_option maxRecDepth 100000 in
theorem frame296 (f : Nat → Value) : frameN 296 f = #[f 0, f 1, f 2, f 3, f 4, f 5, f 6, f 7, f 8, f 9, f 10, f 11, f 12, f 13, f 14, f 15, f 16, f 17, f 18, f 19, f 20, f 21, f 22, f 23, f 24, f 25, f 26, f 27, f 28, f 29, f 30, f 31, f 32, f 33, f 34, f 35, f 36, f 37, f 38, f 39, f 40, f 41, f 42, f 43, f 44, f 45, f 46, f 47, f 48, f 49, f 50, f 51, f 52, f 53, f 54, f 55, f 56, f 57, f 58, f 59, f 60, f 61, f 62, f 63, f 64, f 65, f 66, f 67, f 68, f 69, f 70, f 71, f 72, f 73, f 74, f 75, f 76, f 77, f 78, f 79, f 80, f 81, f 82, f 83, f 84, f 85, f 86, f 87, f 88, f 89, f 90, f 91, f 92, f 93, f 94, f 95, f 96, f 97, f 98, f 99, f 100, f 101, f 102, f 103, f 104, f 105, f 106, f 107, f 108, f 109, f 110, f 111, f 112, f 113, f 114, f 115, f 116, f 117, f 118, f 119, f 120, f 121, f 122, f 123, f 124, f 125, f 126, f 127, f 128, f 129, f 130, f 131, f 132, f 133, f 134, f 135, f 136, f 137, f 138, f 139, f 140, f 141, f 142, f 143, f 144, f 145, f 146, f 147, f 148, f 149, f 150, f 151, f 152, f 153, f 154, f 155, f 156, f 157, f 158, f 159, f 160, f 161, f 162, f 163, f 164, f 165, f 166, f 167, f 168, f 169, f 170, f 171, f 172, f 173, f 174, f 175, f 176, f 177, f 178, f 179, f 180, f 181, f 182, f 183, f 184, f 185, f 186, f 187, f 188, f 189, f 190, f 191, f 192, f 193, f 194, f 195, f 196, f 197, f 198, f 199, f 200, f 201, f 202, f 203, f 204, f 205, f 206, f 207, f 208, f 209, f 210, f 211, f 212, f 213, f 214, f 215, f 216, f 217, f 218, f 219, f 220, f 221, f 222, f 223, f 224, f 225, f 226, f 227, f 228, f 229, f 230, f 231, f 232, f 233, f 234, f 235, f 236, f 237, f 238, f 239, f 240, f 241, f 242, f 243, f 244, f 245, f 246, f 247, f 248, f 249, f 250, f 251, f 252, f 253, f 254, f 255, f 256, f 257, f 258, f 259, f 260, f 261, f 262, f 263, f 264, f 265, f 266, f 267, f 268, f 269, f 270, f 271, f 272, f 273, f 274, f 275, f 276, f 277, f 278, f 279, f 280, f 281, f 282, f 283, f 284, f 285, f 286, f 287, f 288, f 289, f 290, f 291, f 292, f 293, f 294, f 295] := by kernel_rfl

def compI (w : World) (b o bp op len cap : Nat) (C : List Value) (data : List UInt8) (st : Vector UInt32 8) (f : Nat → Value) (wr : World) : Prop :=
  f 0 = .pointer (some ⟨b, o, none⟩) ∧ f 4 = .pointer (some ⟨w.heap.size, 0, none⟩) ∧ f 5 = .pointer (some ⟨w.heap.size + 1, 0, none⟩) ∧
  ∃ (k : Nat) (ad : Addr) (ring : Vector UInt32 16), 64 * k ≤ len ∧ f 1 = .slice (some ad) (len - 64 * k) (cap - 64 * k) ∧ (cap - 64 * k ≠ 0 → ad = ⟨bp, op + 64 * k, none⟩) ∧
      blk wr w.heap.size = some (arr u32v kv) ∧ blk wr (w.heap.size + 1) = some (arr u32v ring) ∧ free wr (w.heap.size + 1) = true ∧ Out w wr b (splice C o (arr u32v (compN data st k)))
def fillI (w : World) (b o bp q l c : Nat) (C : List Value) (data : List UInt8) (k : Nat) (s : Vector UInt32 8) (f : Nat → Value) (wr : World) : Prop :=
  f 0 = .pointer (some ⟨b, o, none⟩) ∧ f 4 = .pointer (some ⟨w.heap.size, 0, none⟩) ∧ f 5 = .pointer (some ⟨w.heap.size + 1, 0, none⟩) ∧ f 1 = .slice (some ⟨bp, q, none⟩) l c ∧
  ∃ (i : Nat) (ring : Vector UInt32 16), i ≤ 16 ∧ f 6 = .int .i64 i ∧ blk wr w.heap.size = some (arr u32v kv) ∧ blk wr (w.heap.size + 1) = some (arr u32v ring) ∧ free wr (w.heap.size + 1) = true ∧
    Out w wr b (splice C o (arr u32v s)) ∧ ∀ j (h : j < 16), j < i → ring[j] = wordAt data (64 * k + 4 * j)
def mixI (w : World) (b o bp q l c : Nat) (C : List Value) (data : List UInt8) (k : Nat) (s : Vector UInt32 8) (f : Nat → Value) (wr : World) : Prop :=
  f 0 = .pointer (some ⟨b, o, none⟩) ∧ f 4 = .pointer (some ⟨w.heap.size, 0, none⟩) ∧ f 5 = .pointer (some ⟨w.heap.size + 1, 0, none⟩) ∧ f 1 = .slice (some ⟨bp, q, none⟩) l c ∧
  ∃ (t : Nat) (ring : Vector UInt32 16) (v : Vector UInt32 8), t ≤ 64 ∧ f 16 = .int .i64 t ∧ runR (ring0 data k) s t = (ring, v) ∧
    f 8 = .int .u32 (w32 v[0]) ∧ f 9 = .int .u32 (w32 v[1]) ∧ f 10 = .int .u32 (w32 v[2]) ∧ f 11 = .int .u32 (w32 v[3]) ∧ f 12 = .int .u32 (w32 v[4]) ∧ f 13 = .int .u32 (w32 v[5]) ∧ f 14 = .int .u32 (w32 v[6]) ∧ f 15 = .int .u32 (w32 v[7]) ∧
    blk wr w.heap.size = some (arr u32v kv) ∧ blk wr (w.heap.size + 1) = some (arr u32v ring) ∧ free wr (w.heap.size + 1) = true ∧ Out w wr b (splice C o (arr u32v s))
set_option maxRecDepth 20000 in
set_option maxHeartbeats 4000000 in
theorem compress_any (w : World) (b o bp op len cap : Nat) (C : List Value) (data : List UInt8) (st : Vector UInt32 8) (hb : blk w b = some (splice C o (arr u32v st))) (hC : o + 8 ≤ C.length) (hf : free w b = true) (hlt : b < w.heap.size)
    (hcap : len ≤ cap) (hbig : len < 4611686018427387904 ∧ cap < 9223372036854775808)
    (hp : ∀ X : List Value, X.length = 8 → ∀ j, j < len → cellAt (blk (put w b (splice C o X)) bp) (op + j) = some (.int .u8 (w8 (byteAt data j)))) (hbp : bp < w.heap.size) :
    Calls Try.prog 56 #[.pointer (some ⟨b, o, none⟩), .slice (some ⟨bp, op, none⟩) len cap] w fun e w' => e = .returned (.tuple #[]) ∧ Out w w' b (splice C o (arr u32v (compN data st (len / 64)))) := by
  obtain ⟨hlb, hbig⟩ := hbig
  have HP : Hid (∀ X : List Value, X.length = 8 → ∀ j, j < len → cellAt (blk (put w b (splice C o X)) bp) (op + j) = some (.int .u8 (w8 (byteAt data j)))) := hp
  clear hp
  go_enter Try.func56, Try.ntmps56
  go_wp2_with fail
  refine wp_loop_f 296 (compI w b o bp op len cap C data st) (fun f _ => lenV (f 1)) rfl ?_ ?_
  · refine ⟨rfl, rfl, rfl, 0, ⟨bp, op, none⟩, Vector.replicate 16 0, by omega, rfl, fun _ => rfl, ?_, ?_, ?_, ?_⟩
    · simp only [blk_alloc, World.size_alloc]; simp
    · simp only [blk_alloc, World.size_alloc]; simp
    · simp only [free_alloc, World.size_alloc]; simp
    · exact ((Out.mk0 hb).alloc _).alloc _
  intro f wr hrel
  obtain ⟨h0, h4, h5, k, ad, ring, hk, h1, had, hkey, hring, hrf, hout⟩ := hrel
  obtain ⟨s, hs0⟩ : ∃ s, s = compN data st k := ⟨_, rfl⟩
  rw [← hs0] at hout
  have HS : Hid (s = compN data st k) := hs0
  clear hs0
  by_cases hlt64 : 64 ≤ len - 64 * k
  · have := had (by omega)
    subst this
    have hs := hout.blk_at hb
    have hsf := (hout.free hlt).trans hf
    have HO : Hid (Out w wr b (splice C o (arr u32v s))) := hout
    clear had hout
    have H1 : Hid (f 1 = .slice (some ⟨bp, op + 64 * k, none⟩) (len - 64 * k) (cap - 64 * k)) := h1
    rw [frame296, h0, h1, h4, h5]
    clear h0 h1 h4 h5
    obtain ⟨l, hl⟩ : ∃ l, l = len - 64 * k := ⟨_, rfl⟩
    obtain ⟨c, hc⟩ : ∃ c, c = cap - 64 * k := ⟨_, rfl⟩
    rw [← hl, ← hc]
    have HL : Hid (l = len - 64 * k) := hl
    have HCc : Hid (c = cap - 64 * k) := hc
    have hl64 : 64 ≤ l := by omega
    have hlc : l ≤ c := by omega
    have hcb : c < 9223372036854775808 := by omega
    clear hl hc
    go_wp2_with fail
    refine wp_loop_f 296 (fillI w b o bp (op + 64 * k) l c C data k s) (fun f _ => 16 - (intOf (f 6)).toNat) rfl ?_ ?_
    · exact ⟨rfl, rfl, rfl, rfl, 0, ring, by omega, rfl, hkey, hring, hrf, HO.out, fun j _ h => by omega⟩
    clear hkey hring hrf hs hsf HO ring
    intro f2 wr2 hrel
    obtain ⟨h0, h4, h5, h1, i, ring, hi, h6, hkey, hring, hrf, hout, hfill⟩ := hrel
    have hs := hout.blk_at hb
    have hsf := (hout.free hlt).trans hf
    have hrd : ∀ j, j < len → cellAt (blk wr2 bp) (op + j) = some (.int .u8 (w8 (byteAt data j))) := by
      intro j hj
      rw [hout.blk_any hbp]
      exact HP.out _ (length_arr _ _) j hj
    have HO : Hid (Out w wr2 b (splice C o (arr u32v s))) := hout
    have HF : Hid (∀ j (h : j < 16), j < i → ring[j] = wordAt data (64 * k + 4 * j)) := hfill
    have HR : Hid (∀ j, j < len → cellAt (blk wr2 bp) (op + j) = some (.int .u8 (w8 (byteAt data j)))) := hrd
    clear hout hfill hrd
    have H6 : Hid (f2 6 = .int .i64 i) := h6
    rw [frame296, h0, h1, h4, h5, h6]
    clear h0 h1 h4 h5 h6
    by_cases hi16 : i < 16
    · have g0 := HR.out (64 * k + 4 * i) (by omega)
      have g1 := HR.out (64 * k + 4 * i + 1) (by omega)
      have g2 := HR.out (64 * k + 4 * i + 2) (by omega)
      have g3 := HR.out (64 * k + 4 * i + 3) (by omega)
      simp only [← Nat.add_assoc] at g0 g1 g2 g3
      go_wp2_with fail
      have e4 : 4 * i + 4 - 4 * i = 4 := by omega
      rw [e4]
      go_still_tail 24, Try.mixed
      go_wp2
      refine ⟨rfl, rfl, ?_, ?_⟩
      · refine ⟨rfl, rfl, rfl, rfl, i + 1, ring.set i (wordAt data (64 * k + 4 * i)) hi16, by omega, ?_, ?_, ?_, ?_, ?_, ?_⟩
        · show Value.int .i64 _ = _
          go_num
        · simp only [blk_put, blk_drew]
          rw [if_neg (by omega)]; exact hkey
        · simp only [blk_put, blk_drew]
          rw [if_pos trivial, hring]
          rfl
        · simp only [free_put, free_drew]; exact hrf
        · exact (HO.out.drew).put_new _ _ (by omega)
        · intro j h hj
          by_cases hji : j = i
          · subst hji; simp
          · rw [Vector.getElem_set, if_neg (by omega)]; exact HF.out j h (by omega)
      · show 16 - (intOf (Value.int .i64 _)).toNat < 16 - (intOf (f2 6)).toNat
        rw [H6.out]
        simp [intOf]; omega
    · obtain rfl : i = 16 := by omega
      have hr0 : ring = ring0 data k := ring0_of fun j h => HF.out j h h
      subst hr0
      clear HF HR
      go_wp2_with fail
      go_quiet (fail)
      go_wp2_with fail
      go_quiet (fail)
      go_wp2_with fail
      refine wp_loop_f 296 (mixI w b o bp (op + 64 * k) l c C data k s) (fun f _ => 64 - (intOf (f 16)).toNat) rfl ?_ ?_
      · exact ⟨rfl, rfl, rfl, rfl, 0, ring0 data k, s, by omega, rfl, rfl, rfl, rfl, rfl, rfl, rfl, rfl, rfl, rfl, hkey, hring, hrf, (HO.out.drewN _).drewN _⟩
      clear hkey hring hrf hs hsf HO H6
      intro f3 wr3 hrel
      obtain ⟨h0, h4, h5, h1, t, ring, v, ht, h16, hrun, h8, h9, h10, h11, h12, h13, h14, h15, hkey, hring, hrf, hout⟩ := hrel
      have H16 : Hid (f3 16 = .int .i64 t) := h16
      have HRun : Hid (runR (ring0 data k) s t = (ring, v)) := hrun
      have hs := hout.blk_at hb
      have hsf := (hout.free hlt).trans hf
      have HO : Hid (Out w wr3 b (splice C o (arr u32v s))) := hout
      clear hout hrun
      rw [frame296, h0, h1, h4, h5, h8, h9, h10, h11, h12, h13, h14, h15, h16]
      clear h0 h1 h4 h5 h8 h9 h10 h11 h12 h13 h14 h15 h16
      have m0 : t % 16 < 16 := by omega
      have m1 : (t + 1) % 16 < 16 := by omega
      have m9 : (t + 9) % 16 < 16 := by omega
      have m14 : (t + 14) % 16 < 16 := by omega
      have n0 : bits .and .i64 (t : Int) 15 = ((t % 16 : Nat) : Int) := and15 t (by omega)
      have n1 : bits .and .i64 ((t : Int) + 1) 15 = (((t + 1) % 16 : Nat) : Int) := and15 (t + 1) (by omega)
      have n9 : bits .and .i64 ((t : Int) + 9) 15 = (((t + 9) % 16 : Nat) : Int) := and15 (t + 9) (by omega)
      have n14 : bits .and .i64 ((t : Int) + 14) 15 = (((t + 14) % 16 : Nat) : Int) := and15 (t + 14) (by omega)
      have wr9 : IntKind.i64.wrap ((t : Int) + 9) = (t : Int) + 9 := wraps_i64 _ (by omega) (by omega)
      have q0 : (0 : Int) ≤ (t : Int) % 16 := by omega
      have q1 : (t : Int) % 16 < 16 := by omega
      have q2 : ((t : Int) % 16).toNat = t % 16 := by omega
      have q3 : (0 : Int) ≤ ((t : Int) + 9) % 16 := by omega
      have q4 : ((t : Int) + 9) % 16 < 16 := by omega
      have q5 : (((t : Int) + 9) % 16).toNat = (t + 9) % 16 := by omega
      by_cases ht64 : t < 64
      · have hk64 := kAt_of ht64
        have HK : Hid (kv[t] = kAt t) := hk64
        clear hk64
        by_cases ht16 : 16 ≤ t
        · have hst : ringStep t ring = ring.set (t % 16) (ring[t % 16] + (sg0 ring[(t + 1) % 16] + ring[(t + 9) % 16] + sg1 ring[(t + 14) % 16])) := by simp [ringStep, ht16]
          have HST : Hid (ringStep t ring = ring.set (t % 16) (ring[t % 16] + (sg0 ring[(t + 1) % 16] + ring[(t + 9) % 16] + sg1 ring[(t + 14) % 16]))) := hst
          clear hst
          go_wp2_with fail
          go_still_tail 15, Try.mixed
          go_wp2_with fail
          go_quiet (fail)
          go_wp2
          refine ⟨rfl, rfl, ?_, ?_⟩
          · refine ⟨rfl, rfl, rfl, rfl, t + 1, ringStep t ring, mixV (kAt t) ((ringStep t ring)[t % 16]) v, by omega, ?_, ?_, ?_, rfl, rfl, rfl, ?_, rfl, rfl, rfl, ?_, ?_, ?_, ?_⟩
            · show Value.int .i64 _ = _
              go_num
            · show (ringStep t (runR (ring0 data k) s t).1, mixV (kAt t) ((ringStep t (runR (ring0 data k) s t).1)[t % 16]) (runR (ring0 data k) s t).2) = _
              rw [HRun.out]
            · simp only [HST.out, ← HK.out, Vector.getElem_set_self]; rfl
            · simp only [HST.out, ← HK.out, Vector.getElem_set_self]; rfl
            · simp only [blk_put, blk_drewN, blk_drew]
              rw [if_neg (by omega)]; exact hkey
            · simp only [blk_put, blk_drewN, blk_drew]
              rw [if_pos trivial, hring, HST.out]; rfl
            · simp only [free_put, free_drewN, free_drew]; exact hrf
            · repeat (first | exact HO.out | refine Out.drewN ?_ _ | refine Out.drew ?_ | refine Out.put_new ?_ _ _ (by omega))
          · show 64 - (intOf (Value.int .i64 _)).toNat < 64 - (intOf (f3 16)).toNat
            rw [H16.out]
            simp [intOf]; omega
        · have hst : ringStep t ring = ring := by simp [ringStep, ht16]
          have HST : Hid (ringStep t ring = ring) := hst
          clear hst
          go_wp2_with fail
          go_quiet (fail)
          go_wp2
          refine ⟨rfl, rfl, ?_, ?_⟩
          · refine ⟨rfl, rfl, rfl, rfl, t + 1, ringStep t ring, mixV (kAt t) ((ringStep t ring)[t % 16]) v, by omega, ?_, ?_, ?_, rfl, rfl, rfl, ?_, rfl, rfl, rfl, ?_, ?_, ?_, ?_⟩
            · show Value.int .i64 _ = _
              go_num
            · show (ringStep t (runR (ring0 data k) s t).1, mixV (kAt t) ((ringStep t (runR (ring0 data k) s t).1)[t % 16]) (runR (ring0 data k) s t).2) = _
              rw [HRun.out]
            · simp only [HST.out, ← HK.out]; rfl
            · simp only [HST.out, ← HK.out]; rfl
            · exact hkey
            · rw [HST.out]; exact hring
            · exact hrf
            · repeat (first | exact HO.out | refine Out.drewN ?_ _ | refine Out.drew ?_ | refine Out.put_new ?_ _ _ (by omega))
          · show 64 - (intOf (Value.int .i64 _)).toNat < 64 - (intOf (f3 16)).toNat
            rw [H16.out]
            simp [intOf]; omega
      · obtain rfl : t = 64 := by omega
        have hv : compN data st (k + 1) = addV s v := by
          show addV (compN data st k) (runR (ring0 data k) (compN data st k) 64).2 = _
          rw [← HS.out, HRun.out]
        have HV : Hid (compN data st (k + 1) = addV s v) := hv
        clear hv n0 n1 n9 n14 q0 q1 q2 q3 q4 q5 wr9 m0 m1 m9 m14
        have hs0 : blk wr3 b = some (splice C o (arr u32v (addK s v 0))) := by rw [addK_zero]; exact hs
        have ho0 : Out w wr3 b (splice C o (arr u32v (addK s v 0))) := by rw [addK_zero]; exact HO.out
        clear hs HO
        go_wp2_with fail
        refine wp_world (fun W => blk W b = some (splice C o (arr u32v (addK s v 0))) ∧ free W b = true ∧ Out w W b (splice C o (arr u32v (addK s v 0))) ∧ blk W w.heap.size = some (arr u32v kv) ∧ (∃ r : Vector UInt32 16, blk W (w.heap.size + 1) = some (arr u32v r)) ∧ free W (w.heap.size + 1) = true) ⟨hs0, hsf, ho0, hkey, ⟨_, hring⟩, hrf⟩ ?_
        clear hs0 ho0 hkey hring hrf hsf
        rintro W0 ⟨hs, hsf, ho, hkey, ⟨r, hring⟩, hrf⟩
        have HO : Hid (Out w W0 b (splice C o (arr u32v (addK s v 0)))) := ho
        clear ho
        go_still_tail 8, Try.mixed
        go_wp2_with fail
        refine wp_world (fun W => blk W b = some (splice C o (arr u32v (addK s v 1))) ∧ free W b = true ∧ Out w W b (splice C o (arr u32v (addK s v 1))) ∧ blk W w.heap.size = some (arr u32v kv) ∧ (∃ r : Vector UInt32 16, blk W (w.heap.size + 1) = some (arr u32v r)) ∧ free W (w.heap.size + 1) = true) ⟨?_, ?_, ?_, ?_, ⟨r, ?_⟩, ?_⟩ ?_
        · simp only [blk_drew, blk_put, if_true, hs, Option.map_some, addK_step]
        · simp only [free_drew, free_put, hsf]
        · rw [← addK_step s v 0 (by decide)]
          exact (Out.put HO.out _ hlt).drew
        · simp only [blk_drew, blk_put]
          rw [if_neg (by omega)]; exact hkey
        · simp only [blk_drew, blk_put]
          rw [if_neg (by omega)]; exact hring
        · simp only [free_drew, free_put, hrf]
        clear hs hsf HO hkey hring hrf
        rintro W1 ⟨hs, hsf, ho, hkey, ⟨r, hring⟩, hrf⟩
        have HO : Hid (Out w W1 b (splice C o (arr u32v (addK s v 1)))) := ho
        clear ho
        go_still_tail 8, Try.mixed
        go_wp2_with fail
        refine wp_world (fun W => blk W b = some (splice C o (arr u32v (addK s v 2))) ∧ free W b = true ∧ Out w W b (splice C o (arr u32v (addK s v 2))) ∧ blk W w.heap.size = some (arr u32v kv) ∧ (∃ r : Vector UInt32 16, blk W (w.heap.size + 1) = some (arr u32v r)) ∧ free W (w.heap.size + 1) = true) ⟨?_, ?_, ?_, ?_, ⟨r, ?_⟩, ?_⟩ ?_
        · simp only [blk_drew, blk_put, if_true, hs, Option.map_some, addK_step]
        · simp only [free_drew, free_put, hsf]
        · rw [← addK_step s v 1 (by decide)]
          exact (Out.put HO.out _ hlt).drew
        · simp only [blk_drew, blk_put]
          rw [if_neg (by omega)]; exact hkey
        · simp only [blk_drew, blk_put]
          rw [if_neg (by omega)]; exact hring
        · simp only [free_drew, free_put, hrf]
        clear hs hsf HO hkey hring hrf
        rintro W2 ⟨hs, hsf, ho, hkey, ⟨r, hring⟩, hrf⟩
        have HO : Hid (Out w W2 b (splice C o (arr u32v (addK s v 2)))) := ho
        clear ho
        go_still_tail 8, Try.mixed
        go_wp2_with fail
        refine wp_world (fun W => blk W b = some (splice C o (arr u32v (addK s v 3))) ∧ free W b = true ∧ Out w W b (splice C o (arr u32v (addK s v 3))) ∧ blk W w.heap.size = some (arr u32v kv) ∧ (∃ r : Vector UInt32 16, blk W (w.heap.size + 1) = some (arr u32v r)) ∧ free W (w.heap.size + 1) = true) ⟨?_, ?_, ?_, ?_, ⟨r, ?_⟩, ?_⟩ ?_
        · simp only [blk_drew, blk_put, if_true, hs, Option.map_some, addK_step]
        · simp only [free_drew, free_put, hsf]
        · rw [← addK_step s v 2 (by decide)]
          exact (Out.put HO.out _ hlt).drew
        · simp only [blk_drew, blk_put]
          rw [if_neg (by omega)]; exact hkey
        · simp only [blk_drew, blk_put]
          rw [if_neg (by omega)]; exact hring
        · simp only [free_drew, free_put, hrf]
        clear hs hsf HO hkey hring hrf
        rintro W3 ⟨hs, hsf, ho, hkey, ⟨r, hring⟩, hrf⟩
        have HO : Hid (Out w W3 b (splice C o (arr u32v (addK s v 3)))) := ho
        clear ho
        go_still_tail 8, Try.mixed
        go_wp2_with fail
        refine wp_world (fun W => blk W b = some (splice C o (arr u32v (addK s v 4))) ∧ free W b = true ∧ Out w W b (splice C o (arr u32v (addK s v 4))) ∧ blk W w.heap.size = some (arr u32v kv) ∧ (∃ r : Vector UInt32 16, blk W (w.heap.size + 1) = some (arr u32v r)) ∧ free W (w.heap.size + 1) = true) ⟨?_, ?_, ?_, ?_, ⟨r, ?_⟩, ?_⟩ ?_
        · simp only [blk_drew, blk_put, if_true, hs, Option.map_some, addK_step]
        · simp only [free_drew, free_put, hsf]
        · rw [← addK_step s v 3 (by decide)]
          exact (Out.put HO.out _ hlt).drew
        · simp only [blk_drew, blk_put]
          rw [if_neg (by omega)]; exact hkey
        · simp only [blk_drew, blk_put]
          rw [if_neg (by omega)]; exact hring
        · simp only [free_drew, free_put, hrf]
        clear hs hsf HO hkey hring hrf
        rintro W4 ⟨hs, hsf, ho, hkey, ⟨r, hring⟩, hrf⟩
        have HO : Hid (Out w W4 b (splice C o (arr u32v (addK s v 4)))) := ho
        clear ho
        go_still_tail 8, Try.mixed
        go_wp2_with fail
        refine wp_world (fun W => blk W b = some (splice C o (arr u32v (addK s v 5))) ∧ free W b = true ∧ Out w W b (splice C o (arr u32v (addK s v 5))) ∧ blk W w.heap.size = some (arr u32v kv) ∧ (∃ r : Vector UInt32 16, blk W (w.heap.size + 1) = some (arr u32v r)) ∧ free W (w.heap.size + 1) = true) ⟨?_, ?_, ?_, ?_, ⟨r, ?_⟩, ?_⟩ ?_
        · simp only [blk_drew, blk_put, if_true, hs, Option.map_some, addK_step]
        · simp only [free_drew, free_put, hsf]
        · rw [← addK_step s v 4 (by decide)]
          exact (Out.put HO.out _ hlt).drew
        · simp only [blk_drew, blk_put]
          rw [if_neg (by omega)]; exact hkey
        · simp only [blk_drew, blk_put]
          rw [if_neg (by omega)]; exact hring
        · simp only [free_drew, free_put, hrf]
        clear hs hsf HO hkey hring hrf
        rintro W5 ⟨hs, hsf, ho, hkey, ⟨r, hring⟩, hrf⟩
        have HO : Hid (Out w W5 b (splice C o (arr u32v (addK s v 5)))) := ho
        clear ho
        go_still_tail 8, Try.mixed
        go_wp2_with fail
        refine wp_world (fun W => blk W b = some (splice C o (arr u32v (addK s v 6))) ∧ free W b = true ∧ Out w W b (splice C o (arr u32v (addK s v 6))) ∧ blk W w.heap.size = some (arr u32v kv) ∧ (∃ r : Vector UInt32 16, blk W (w.heap.size + 1) = some (arr u32v r)) ∧ free W (w.heap.size + 1) = true) ⟨?_, ?_, ?_, ?_, ⟨r, ?_⟩, ?_⟩ ?_
        · simp only [blk_drew, blk_put, if_true, hs, Option.map_some, addK_step]
        · simp only [free_drew, free_put, hsf]
        · rw [← addK_step s v 5 (by decide)]
          exact (Out.put HO.out _ hlt).drew
        · simp only [blk_drew, blk_put]
          rw [if_neg (by omega)]; exact hkey
        · simp only [blk_drew, blk_put]
          rw [if_neg (by omega)]; exact hring
        · simp only [free_drew, free_put, hrf]
        clear hs hsf HO hkey hring hrf
        rintro W6 ⟨hs, hsf, ho, hkey, ⟨r, hring⟩, hrf⟩
        have HO : Hid (Out w W6 b (splice C o (arr u32v (addK s v 6)))) := ho
        clear ho
        go_still_tail 8, Try.mixed
        go_wp2_with fail
        refine wp_world (fun W => blk W b = some (splice C o (arr u32v (addK s v 7))) ∧ free W b = true ∧ Out w W b (splice C o (arr u32v (addK s v 7))) ∧ blk W w.heap.size = some (arr u32v kv) ∧ (∃ r : Vector UInt32 16, blk W (w.heap.size + 1) = some (arr u32v r)) ∧ free W (w.heap.size + 1) = true) ⟨?_, ?_, ?_, ?_, ⟨r, ?_⟩, ?_⟩ ?_
        · simp only [blk_drew, blk_put, if_true, hs, Option.map_some, addK_step]
        · simp only [free_drew, free_put, hsf]
        · rw [← addK_step s v 6 (by decide)]
          exact (Out.put HO.out _ hlt).drew
        · simp only [blk_drew, blk_put]
          rw [if_neg (by omega)]; exact hkey
        · simp only [blk_drew, blk_put]
          rw [if_neg (by omega)]; exact hring
        · simp only [free_drew, free_put, hrf]
        clear hs hsf HO hkey hring hrf
        rintro W7 ⟨hs, hsf, ho, hkey, ⟨r, hring⟩, hrf⟩
        have HO : Hid (Out w W7 b (splice C o (arr u32v (addK s v 7)))) := ho
        clear ho
        go_still_tail 8, Try.mixed
        have e1 : l - 64 = len - 64 * (k + 1) := by have := HL.out; omega
        have e2 : c - 64 = cap - 64 * (k + 1) := by have := HCc.out; omega
        have E1 : Hid (l - 64 = len - 64 * (k + 1)) := e1
        have E2 : Hid (c - 64 = cap - 64 * (k + 1)) := e2
        clear e1 e2
        go_wp2
        all_goals
          refine ⟨rfl, rfl, ?_, ?_⟩
          · refine ⟨rfl, rfl, rfl, k + 1, _, r, ?_, slice_eq (by have := E1.out; omega) (by have := E2.out; omega), ?_, ?_, ?_, ?_, ?_⟩
            · have := HL.out; omega
            · intro hne
              have e3 := E2.out
              first
                | (exfalso; omega)
                | (rw [Nat.mul_succ, ← Nat.add_assoc])
            · simp only [blk_drew, blk_put]
              rw [if_neg (by omega)]; exact hkey
            · simp only [blk_drew, blk_put]
              rw [if_neg (by omega)]; exact hring
            · simp only [free_drew, free_put, hrf]
            · rw [HV.out, ← addK_all, ← addK_step s v 7 (by decide)]
              exact (Out.put HO.out _ hlt).drew
          · show l - 64 < lenV (f 1)
            rw [H1.out]
            show l - 64 < len - 64 * k
            have := HL.out; omega

  · obtain ⟨l, hl⟩ : ∃ l, l = len - 64 * k := ⟨_, rfl⟩
    have hq : len / 64 = k := by omega
    have HQ : Hid (len / 64 = k) := hq
    have HO : Hid (Out w wr b (splice C o (arr u32v s))) := hout
    rw [← hl] at h1
    have hl64 : l < 64 := by omega
    rw [frame296, h0, h1, h4, h5]
    clear h0 h1 h4 h5 hout had hl HP hq
    go_wp2
    go_end0
    refine ⟨rfl, ?_⟩
    rw [HQ.out, ← HS.out]
    exact HO.out

end Go.Proofs.Qxb6500785a
