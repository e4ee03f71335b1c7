/- What a hasher stands for: the plain laws of feeding it. -/
import Derived.Test.Qxb6500785aByte
set_option linter.unusedSimpArgs false
set_option linter.unusedVariables false
namespace Go.Proofs.Qxb6500785a
open Go.RowKit Go.Blk

theorem ring0_congr {d m : List UInt8} {j k : Nat} (h : ∀ i, i < 64 → byteAt d (64 * j + i) = byteAt m (64 * k + i)) : ring0 d j = ring0 m k := by
  apply Vector.ext
  intro i hi
  simp only [ring0, Vector.getElem_ofFn, wordAt]
  have e0 := h (4 * i) (by omega)
  have e1 := h (4 * i + 1) (by omega)
  have e2 := h (4 * i + 2) (by omega)
  have e3 := h (4 * i + 3) (by omega)
  simp only [← Nat.add_assoc] at e0 e1 e2 e3
  rw [e0, e1, e2, e3]

theorem compN_shift (d m : List UInt8) (st : Vector UInt32 8) (k : Nat) : ∀ j, (∀ i, i < 64 * j → byteAt d i = byteAt m (64 * k + i)) → compN d (compN m st k) j = compN m st (k + j) := by
  intro j
  induction j with
  | zero => intro _; rfl
  | succ j ih =>
    intro h
    have e := ih fun i hi => h i (by omega)
    have r : ring0 d j = ring0 m (k + j) := ring0_congr fun i hi => by rw [h _ (by omega)]; congr 1; omega
    show addV (compN d (compN m st k) j) (runR (ring0 d j) (compN d (compN m st k) j) 64).2 = _
    rw [e, r]; rfl
theorem compN_congr {d m : List UInt8} (st : Vector UInt32 8) {k : Nat} (h : ∀ i, i < 64 * k → byteAt d i = byteAt m i) : compN d st k = compN m st k := by
  have := compN_shift d m st 0 k (fun i hi => by rw [h i hi]; congr 1; omega)
  rw [Nat.zero_add] at this
  exact this

theorem byteAt_left {a b : List UInt8} {i : Nat} (h : i < a.length) : byteAt (a ++ b) i = byteAt a i := by
  simp [byteAt, List.getElem?_append, h]
theorem byteAt_right {a b : List UInt8} {i : Nat} : byteAt (a ++ b) (a.length + i) = byteAt b i := by
  have : ¬ a.length + i < a.length := by omega
  simp [byteAt, List.getElem?_append, this]
theorem byteAt_drop {a : List UInt8} {k i : Nat} : byteAt (a.drop k) i = byteAt a (k + i) := by
  simp [byteAt]
theorem byteAt_take {a : List UInt8} {k i : Nat} (h : i < k) : byteAt (a.take k) i = byteAt a i := by
  simp [byteAt, List.getElem?_take, h]

structure Rep (h : Hasher) (m : List UInt8) : Prop where
  small : m.length ≤ 2305843009213693951
  state : h.state = compN m iv (m.length / 64)
  fill : h.fill = ((m.length % 64 : Nat) : Int)
  len : h.length = UInt64.ofNat m.length
  block : ∀ j (hj : j < 64), j < m.length % 64 → h.block[j] = byteAt m (64 * (m.length / 64) + j)

theorem w64_ofNat (n : Nat) (h : n < 18446744073709551616) : w64 (UInt64.ofNat n) = (n : Int) := by
  unfold w64; rw [UInt64.toNat_ofNat', Nat.mod_eq_of_lt (by simpa using h)]
theorem Rep.w64 {h : Hasher} {m : List UInt8} (r : Rep h m) : w64 h.length = (m.length : Int) := by
  rw [r.len, w64_ofNat _ (by have := r.small; omega)]

/-- Feeding stays within the block. -/
theorem Rep.part {h h' : Hasher} {m xs : List UInt8} (r : Rep h m) (hs : m.length + xs.length ≤ 2305843009213693951) (hf : m.length % 64 + xs.length < 64)
    (h1 : h'.state = h.state) (h2 : h'.fill = ((m.length % 64 + xs.length : Nat) : Int)) (h3 : h'.length = UInt64.ofNat (m.length + xs.length)) (h4 : h'.block = lay h.block (m.length % 64) xs) : Rep h' (m ++ xs) := by
  have e1 : (m ++ xs).length / 64 = m.length / 64 := by simp; omega
  have e2 : (m ++ xs).length % 64 = m.length % 64 + xs.length := by simp; omega
  refine ⟨by simp; omega, ?_, by rw [h2, e2], by rw [h3]; simp, ?_⟩
  · rw [h1, r.state, e1]
    refine (compN_congr iv fun i hi => ?_).symm
    exact byteAt_left (by omega)
  · intro j hj hl
    rw [e2] at hl
    rw [e1, h4, lay_at _ _ _ _ hj]
    split
    · rename_i hc
      have : 64 * (m.length / 64) + j = m.length + (j - m.length % 64) := by omega
      rw [this, byteAt_right]; rfl
    · rename_i hc
      rw [r.block j hj (by omega), byteAt_left (by omega)]

/-- The first xs fill the block up; it is compressed; nothing is left. -/
theorem Rep.full {h h' : Hasher} {m xs : List UInt8} (r : Rep h m) (hs : m.length + xs.length ≤ 2305843009213693951) (hf : m.length % 64 + xs.length = 64)
    (d : List UInt8) (hd : ∀ j (hj : j < 64), byteAt d j = (lay h.block (m.length % 64) xs)[j])
    (h1 : h'.state = compN d h.state 1) (h2 : h'.fill = 0) (h3 : h'.length = UInt64.ofNat (m.length + xs.length)) : Rep h' (m ++ xs) := by
  have e1 : (m ++ xs).length / 64 = m.length / 64 + 1 := by simp; omega
  have e2 : (m ++ xs).length % 64 = 0 := by simp; omega
  refine ⟨by simp; omega, ?_, by rw [h2, e2]; rfl, by rw [h3]; simp, by intro j hj hl; omega⟩
  rw [h1, r.state, e1, ← compN_shift d (m ++ xs) iv (m.length / 64) 1]
  · rw [compN_congr (d := m ++ xs) (m := m) iv fun i hi => byteAt_left (by omega)]
  · intro i hi
    rw [hd i (by omega), lay_at]
    split
    · rename_i hc
      have : 64 * (m.length / 64) + i = m.length + (i - m.length % 64) := by omega
      rw [this, byteAt_right]; rfl
    · rename_i hc
      rw [r.block i (by omega) (by omega), byteAt_left (by omega)]

/-- Whole blocks, then a rest, onto an empty block. -/
theorem Rep.blocks {h h' : Hasher} {m xs : List UInt8} (r : Rep h m) (hs : m.length + xs.length ≤ 2305843009213693951) (h0 : m.length % 64 = 0)
    (h1 : h'.state = compN xs h.state (xs.length / 64)) (h2 : h'.fill = ((xs.length % 64 : Nat) : Int)) (h3 : h'.length = UInt64.ofNat (m.length + xs.length))
    (h4 : h'.block = lay h.block 0 (xs.drop (64 * (xs.length / 64)))) : Rep h' (m ++ xs) := by
  have e1 : (m ++ xs).length / 64 = m.length / 64 + xs.length / 64 := by simp; omega
  have e2 : (m ++ xs).length % 64 = xs.length % 64 := by simp; omega
  refine ⟨by simp; omega, ?_, by rw [h2, e2], by rw [h3]; simp, ?_⟩
  · rw [h1, r.state, e1, ← compN_shift xs (m ++ xs) iv (m.length / 64) (xs.length / 64)]
    · rw [compN_congr (d := m ++ xs) (m := m) iv fun i hi => byteAt_left (by omega)]
    · intro i hi
      have : 64 * (m.length / 64) + i = m.length + i := by omega
      rw [this, byteAt_right]
  · intro j hj hl
    rw [e2] at hl
    rw [e1, h4, lay_at _ _ _ _ hj, if_pos (by simp; omega)]
    have : 64 * (m.length / 64 + xs.length / 64) + j = m.length + (64 * (xs.length / 64) + j) := by omega
    rw [this, byteAt_right]
    have := byteAt_drop (a := xs) (k := 64 * (xs.length / 64)) (i := j)
    rw [← this]; simp [byteAt]

theorem Hasher.block_lay (x : Hasher) (f : Nat) (ys : List UInt8) (h : f + ys.length ≤ 64) : splice x.enc (8 + f) (bv ys) = ({ x with block := lay x.block f ys } : Hasher).enc := by
  rw [splice_sub (Hasher.block_get x) (by rw [Hasher.length_enc]; omega) (by rw [length_bv]; omega), arr_lay _ _ _ h, Hasher.block_set]
theorem Hasher.block_layC (C : List Value) (o : Nat) (x : Hasher) (f : Nat) (ys : List UInt8) (hC : o + 74 ≤ C.length) (h : f + ys.length ≤ 64) : splice (splice C o x.enc) (o + 8 + f) (bv ys) = splice C o ({ x with block := lay x.block f ys } : Hasher).enc := by
  rw [Nat.add_assoc, splice_splice (by rw [Hasher.length_enc]; omega) (by rw [length_bv, Hasher.length_enc]; omega), Hasher.block_lay _ _ _ h]
theorem Hasher.block_lay0 (C : List Value) (o : Nat) (x : Hasher) (ys : List UInt8) (hC : o + 74 ≤ C.length) (h : ys.length ≤ 64) : splice (splice C o x.enc) (o + 8) (bv ys) = splice C o ({ x with block := lay x.block 0 ys } : Hasher).enc :=
  Hasher.block_layC C o x 0 ys hC (by omega)
theorem Hasher.state_C (C : List Value) (o : Nat) (x : Hasher) (y : Vector UInt32 8) (hC : o + 74 ≤ C.length) : splice (splice C o x.enc) o (arr u32v y) = splice C o ({ x with state := y } : Hasher).enc := by
  rw [splice_splice0 (by rw [Hasher.length_enc]; omega) (by rw [length_arr, Hasher.length_enc]; omega), Hasher.state_set]
theorem Hasher.enc_state (x : Hasher) : splice x.enc 0 (arr u32v x.state) = x.enc := by rw [Hasher.state_set]
/-- The block's bytes, read off the hasher's cells. -/
theorem Hasher.block_cell (C : List Value) (o : Nat) (x : Hasher) (X : List Value) (hX : X.length = 8) (hC : o + 74 ≤ C.length) (j : Nat) (h : j < 64) : nth (splice (splice C o x.enc) o X) (o + 8 + j) = some (.int .u8 (w8 x.block[j])) := by
  rw [splice_splice0 (by rw [Hasher.length_enc]; omega) (by rw [hX, Hasher.length_enc]; omega)]
  rw [Nat.add_assoc, nth_splice (by rw [length_splice _ _ _ (by rw [hX, Hasher.length_enc]; omega), Hasher.length_enc]; omega) (by rw [length_splice _ _ _ (by rw [hX, Hasher.length_enc]; omega), Hasher.length_enc]; omega)]
  have := Hasher.block_at x j h
  rw [← this]
  unfold nth splice
  rw [List.getElem?_append_right (by simp [hX])]
  simp [hX]
end Go.Proofs.Qxb6500785a
