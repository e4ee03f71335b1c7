/- SHA-256 as a plain function of a list; the stream's Sum is it. -/
import Derived.Test.Qxb6500785aSum
set_option linter.unusedSimpArgs false
set_option linter.unusedVariables false
namespace Go.Proofs.Qxb6500785a
open Go.RowKit Go.Blk

def zerosOf (n : Nat) : Nat := (119 - n % 64) % 64
def be8 (n : Nat) : List UInt8 := be4 (UInt32.ofNat (n / 4294967296)) ++ be4 (UInt32.ofNat n)
theorem length_be8 (n : Nat) : (be8 n).length = 8 := rfl
def padM (m : List UInt8) : List UInt8 := m ++ ([128] ++ (List.replicate (zerosOf m.length) 0 ++ be8 (8 * m.length)))
theorem length_padM (m : List UInt8) : (padM m).length = 64 * (m.length / 64) + endOf (m.length % 64) := by
  simp only [padM, List.length_append, List.length_replicate, length_be8, List.length_singleton, zerosOf, endOf]
  split <;> omega
def sha (m : List UInt8) : Vector UInt8 32 := digV (compN (padM m) iv ((padM m).length / 64))

theorem byteAt_toList {n : Nat} (v : Vector UInt8 n) (i : Nat) (h : i < n) : byteAt v.toList i = v[i] := by simp [byteAt, h]
theorem byteAt_right' {a b : List UInt8} {i : Nat} (h : a.length ≤ i) : byteAt (a ++ b) i = byteAt b (i - a.length) := by
  have := byteAt_right (a := a) (b := b) (i := i - a.length)
  rw [← this]; congr 1; omega
theorem byteAt_zeros {n i : Nat} : byteAt (List.replicate n 0) i = 0 := by
  simp [byteAt, List.getElem?_replicate]; split <;> rfl
theorem endOf_le (f : Nat) (h : f < 64) : f + 9 ≤ endOf f ∧ (endOf f = 64 ∨ endOf f = 128) ∧ endOf f ≤ f + 72 := by
  unfold endOf; split <;> omega

theorem tail_pad (h : Hasher) (m : List UInt8) (r : Rep h m) (i : Nat) (hi : i < endOf (m.length % 64)) :
    byteAt (tailOf (h.block.toList.take (m.length % 64)) (m.length % 64) (8 * m.length)).toList i = byteAt (padM m) (64 * (m.length / 64) + i) := by
  obtain ⟨f, hf⟩ : ∃ f, f = m.length % 64 := ⟨_, rfl⟩
  obtain ⟨k, hk⟩ : ∃ k, k = m.length / 64 := ⟨_, rfl⟩
  obtain ⟨he1, he2, he3⟩ := endOf_le f (by omega)
  have hl : (h.block.toList.take f).length = f := by simp; omega
  have hz : zerosOf m.length = endOf f - 9 - f := by
    unfold zerosOf endOf
    rw [← hf]; split <;> omega
  have hm : m.length = 64 * k + f := by omega
  have hB := r.block
  rw [← hf, ← hk] at hB
  rw [← hf] at hi ⊢
  rw [← hk, byteAt_toList _ _ (by omega)]
  unfold tailOf padM
  rw [lay_at, lay_at, lay_at, lay_at, length_be4, length_be4, hl, hz]
  by_cases h4 : endOf f - 4 ≤ i ∧ i < endOf f - 4 + 4
  · rw [if_pos h4, byteAt_right' (by omega), byteAt_right' (by simp; omega), byteAt_right' (by simp; omega), be8, byteAt_right' (by rw [length_be4]; simp; omega)]
    simp only [List.length_singleton, List.length_replicate, length_be4]
    show (be4 _).getD _ 0 = (be4 _).getD _ 0
    congr 1; omega
  · rw [if_neg h4]
    by_cases h3 : endOf f - 8 ≤ i ∧ i < endOf f - 8 + 4
    · rw [if_pos h3, byteAt_right' (by omega), byteAt_right' (by simp; omega), byteAt_right' (by simp; omega), be8, byteAt_left (by rw [length_be4]; simp; omega)]
      simp only [List.length_singleton, List.length_replicate, length_be4]
      show (be4 _).getD _ 0 = (be4 _).getD _ 0
      congr 1; omega
    · rw [if_neg h3]
      by_cases h2 : f ≤ i ∧ i < f + [(128 : UInt8)].length
      · rw [if_pos h2, byteAt_right' (by omega), byteAt_left (by simp at *; omega)]
        have e1 : i - f = 0 := by simp at h2; omega
        have e2 : 64 * k + i - m.length = 0 := by simp at h2; omega
        rw [e1, e2]; rfl
      · rw [if_neg h2]
        simp only [List.length_singleton] at h2
        by_cases h1 : 0 ≤ i ∧ i < 0 + f
        · rw [if_pos h1, byteAt_left (by omega), ← hB i (by omega) (by omega)]
          have : i < f := by omega
          simp [List.getElem?_take, this]
          have h64 : i < 64 := by omega
          simp [h64]
        · rw [if_neg h1, byteAt_right' (by omega), byteAt_right' (by simp; omega), byteAt_left (by simp; omega), byteAt_zeros]
          simp

theorem sum_sha (h : Hasher) (m : List UInt8) (r : Rep h m) : sumOf h (m.length % 64) m.length = sha m := by
  show digV (compN _ h.state _) = digV (compN _ iv _)
  refine congrArg digV ?_
  have hE := endOf_le (m.length % 64) (by omega)
  have e1 : (padM m).length / 64 = m.length / 64 + endOf (m.length % 64) / 64 := by rw [length_padM]; omega
  rw [e1, r.state, ← compN_shift (tailOf (h.block.toList.take (m.length % 64)) (m.length % 64) (8 * m.length)).toList (padM m) iv (m.length / 64)]
  · rw [compN_congr (d := padM m) (m := m) iv fun i hi => byteAt_left (by omega)]
  · intro i hi
    exact tail_pad h m r i (by omega)
end Go.Proofs.Qxb6500785a
