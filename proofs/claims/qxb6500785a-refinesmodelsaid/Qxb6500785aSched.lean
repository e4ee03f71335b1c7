/- The standard's schedule and rounds against the ring's. -/
import Derived.Test.Qxb6500785aPad
set_option linter.unusedSimpArgs false
set_option linter.unusedVariables false
namespace Go.Proofs.Qxb6500785a
open Go.RowKit Go.Blk

theorem ch_eq (e f g : UInt32) : g ^^^ e &&& (f ^^^ g) = chF e f g := by
  apply UInt32.toBitVec_inj.1
  apply BitVec.eq_of_getLsbD_eq
  intro i hi
  simp only [chF, UInt32.toBitVec_xor, UInt32.toBitVec_and, UInt32.toBitVec_not, BitVec.getLsbD_xor, BitVec.getLsbD_and, BitVec.getLsbD_not, hi, decide_true, Bool.true_and]
  cases e.toBitVec.getLsbD i <;> cases f.toBitVec.getLsbD i <;> cases g.toBitVec.getLsbD i <;> rfl
theorem maj_eq (a b c : UInt32) : a &&& b ||| c &&& (a ||| b) = majF a b c := by
  apply UInt32.toBitVec_inj.1
  apply BitVec.eq_of_getLsbD_eq
  intro i hi
  simp only [majF, UInt32.toBitVec_xor, UInt32.toBitVec_and, UInt32.toBitVec_or, BitVec.getLsbD_xor, BitVec.getLsbD_and, BitVec.getLsbD_or]
  cases a.toBitVec.getLsbD i <;> cases b.toBitVec.getLsbD i <;> cases c.toBitVec.getLsbD i <;> rfl

def wAt (v : Vector UInt32 64) (i : Nat) : UInt32 := v.toList.getD i 0
theorem wAt_of (v : Vector UInt32 64) (i : Nat) (h : i < 64) : v[i] = wAt v i := by simp [wAt, h]
/-- The first t words of the schedule. -/
def schedV (r : Vector UInt32 16) : Nat → Vector UInt32 64
  | 0 => Vector.replicate 64 0
  | t + 1 => if h : t < 64 then (schedV r t).set t (if h' : t < 16 then r[t] else sg1 (wAt (schedV r t) (t - 2)) + wAt (schedV r t) (t - 7) + sg0 (wAt (schedV r t) (t - 15)) + wAt (schedV r t) (t - 16)) h else schedV r t
theorem wAt_set (v : Vector UInt32 64) (t : Nat) (x : UInt32) (h : t < 64) (j : Nat) : wAt (v.set t x h) j = if j = t then x else wAt v j := by
  unfold wAt
  by_cases hj : j < 64
  · have e1 : (v.set t x h).toList.getD j 0 = (v.set t x h)[j] := by simp [hj]
    have e2 : v.toList.getD j 0 = v[j] := by simp [hj]
    rw [e1, e2, Vector.getElem_set]
    by_cases hjt : j = t
    · subst hjt; simp
    · have : ¬ t = j := fun h => hjt h.symm
      simp [hjt, this]
  · have : ¬ j = t := by omega
    simp [this, hj]
theorem sched_stays (r : Vector UInt32 16) (t j : Nat) (h : j < t) (d : Nat) : wAt (schedV r (t + d)) j = wAt (schedV r t) j := by
  induction d with
  | zero => rfl
  | succ d ih =>
    rw [← Nat.add_assoc]
    show wAt (if h : t + d < 64 then _ else _) j = _
    split
    · rw [wAt_set, if_neg (by omega)]; exact ih
    · exact ih
theorem sched_low (r : Vector UInt32 16) (t : Nat) (h : t < 16) : wAt (schedV r (t + 1)) t = r[t] := by
  show wAt (if h : t < 64 then _ else _) t = _
  rw [dif_pos (by omega), wAt_set, if_pos rfl, dif_pos h]
theorem sched_high (r : Vector UInt32 16) (t : Nat) (h : ¬ t < 16) (h' : t < 64) : wAt (schedV r (t + 1)) t = sg1 (wAt (schedV r t) (t - 2)) + wAt (schedV r t) (t - 7) + sg0 (wAt (schedV r t) (t - 15)) + wAt (schedV r t) (t - 16) := by
  show wAt (if h : t < 64 then _ else _) t = _
  rw [dif_pos h', wAt_set, if_pos rfl, dif_neg h]

/-- The ring holds the last sixteen words. -/
theorem ring_sched (r : Vector UInt32 16) (s : Vector UInt32 8) : ∀ t, t ≤ 64 → (t ≤ 16 → (runR r s t).1 = r) ∧ (16 ≤ t → ∀ j, t - 16 ≤ j → j < t → (runR r s t).1[j % 16]'(by omega) = wAt (schedV r t) j) := by
  intro t
  induction t with
  | zero => intro _; exact ⟨fun _ => rfl, fun h => by omega⟩
  | succ t ih =>
    intro ht
    obtain ⟨ih1, ih2⟩ := ih (by omega)
    have hstep : (runR r s (t + 1)).1 = ringStep t (runR r s t).1 := rfl
    by_cases h16 : t < 16
    · have hl : ringStep t (runR r s t).1 = r := by
        unfold ringStep; rw [if_neg (by omega)]; exact ih1 (by omega)
      refine ⟨fun _ => by rw [hstep, hl], fun h => ?_⟩
      intro j hj1 hj2
      have ht15 : t = 15 := by omega
      subst ht15
      have hj16 : j % 16 = j := by omega
      have e1 := sched_stays r (j + 1) j (by omega) (15 + 1 - (j + 1))
      rw [show j + 1 + (15 + 1 - (j + 1)) = 15 + 1 by omega] at e1
      rw [e1, sched_low r j (by omega)]
      simp only [hstep, hl, hj16]
    · refine ⟨fun h => by omega, fun _ => ?_⟩
      intro j hj1 hj2
      have g := ih2 (by omega)
      have hl : ringStep t (runR r s t).1 = (runR r s t).1.set (t % 16) ((runR r s t).1[t % 16] + (sg0 (runR r s t).1[(t + 1) % 16] + (runR r s t).1[(t + 9) % 16] + sg1 (runR r s t).1[(t + 14) % 16])) := by
        unfold ringStep; rw [if_pos (by omega)]
      simp only [hstep, hl]
      by_cases hjt : j = t
      · subst hjt
        rw [Vector.getElem_set_self, sched_high r j h16 (by omega)]
        have g0 := g (j - 16) (by omega) (by omega)
        have g1 := g (j - 15) (by omega) (by omega)
        have g9 := g (j - 7) (by omega) (by omega)
        have g14 := g (j - 2) (by omega) (by omega)
        have m0 : (j - 16) % 16 = j % 16 := by omega
        have m1 : (j - 15) % 16 = (j + 1) % 16 := by omega
        have m9 : (j - 7) % 16 = (j + 9) % 16 := by omega
        have m14 : (j - 2) % 16 = (j + 14) % 16 := by omega
        simp only [m0] at g0
        simp only [m1] at g1
        simp only [m9] at g9
        simp only [m14] at g14
        rw [g0, g1, g9, g14]
        generalize wAt (schedV r j) (j - 16) = x0
        generalize sg0 (wAt (schedV r j) (j - 15)) = x1
        generalize wAt (schedV r j) (j - 7) = x9
        generalize sg1 (wAt (schedV r j) (j - 2)) = x14
        ac_rfl
      · rw [Vector.getElem_set_ne _ _ (by omega), g j (by omega) (by omega)]
        exact (sched_stays r t j (by omega) 1).symm

theorem ring_at (r : Vector UInt32 16) (s : Vector UInt32 8) (t : Nat) (h : t < 64) : (ringStep t (runR r s t).1)[t % 16] = wAt (schedV r 64) t := by
  have e := sched_stays r (t + 1) t (by omega) (64 - (t + 1))
  rw [show t + 1 + (64 - (t + 1)) = 64 by omega] at e
  rw [e]
  have hs := ring_sched r s (t + 1) (by omega)
  by_cases h16 : t + 1 ≤ 16
  · have := hs.1 h16
    have hstep : (runR r s (t + 1)).1 = ringStep t (runR r s t).1 := rfl
    rw [hstep] at this
    rw [sched_low r t (by omega)]
    have hm : t % 16 = t := by omega
    simp only [this, hm]
  · exact hs.2 (by omega) t (by omega) (by omega)

/-- The standard's rounds. -/
def roundM (k x : UInt32) (s : Vector UInt32 8) : Vector UInt32 8 :=
  #v[s[7] + bg1 s[4] + chF s[4] s[5] s[6] + k + x + (bg0 s[0] + majF s[0] s[1] s[2]), s[0], s[1], s[2], s[3] + (s[7] + bg1 s[4] + chF s[4] s[5] s[6] + k + x), s[4], s[5], s[6]]
theorem round_mix (k x : UInt32) (s : Vector UInt32 8) : mixV k x s = roundM k x s := by
  simp only [mixV, roundM, ch_eq, maj_eq]
def roundsM (W : Vector UInt32 64) (s : Vector UInt32 8) : Nat → Vector UInt32 8
  | 0 => s
  | t + 1 => roundM (kAt t) (wAt W t) (roundsM W s t)
theorem rounds_run (r : Vector UInt32 16) (s : Vector UInt32 8) : ∀ t, t ≤ 64 → (runR r s t).2 = roundsM (schedV r 64) s t := by
  intro t
  induction t with
  | zero => intro _; rfl
  | succ t ih =>
    intro ht
    show mixV (kAt t) ((ringStep t (runR r s t).1)[t % 16]) (runR r s t).2 = _
    rw [ring_at r s t (by omega), ih (by omega)]
    exact round_mix _ _ _
theorem comp_rounds (data : List UInt8) (st : Vector UInt32 8) (k : Nat) : compN data st (k + 1) = addV (compN data st k) (roundsM (schedV (ring0 data k) 64) (compN data st k) 64) := by
  show addV (compN data st k) (runR (ring0 data k) (compN data st k) 64).2 = _
  rw [rounds_run _ _ 64 (Nat.le_refl _)]
end Go.Proofs.Qxb6500785a
