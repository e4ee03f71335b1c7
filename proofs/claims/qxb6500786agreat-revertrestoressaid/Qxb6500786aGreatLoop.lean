/- A loop whose relation speaks of the frame as a function of the slot's number: no letter a slot. -/
import Derived.Test.Qxb6500786aGreatOut
set_option linter.unusedVariables false
namespace Go
namespace Blk

def slots (T : Array Value) : Nat → Value := fun i => T.getD i undef
def frameN (N : Nat) (f : Nat → Value) : Array Value := ((List.range N).map f).toArray

theorem frameN_slots (T : Array Value) (N : Nat) (h : T.size = N) : frameN N (slots T) = T := by
  subst h
  apply Array.ext
  · simp [frameN]
  · intro i h1 h2
    simp [frameN, slots, h2]

/-- How a round ends: behind a name, so that the walk stands before it. -/
structure RoundEnd (N : Nat) (I : (Nat → Value) → World → Prop) (μ : (Nat → Value) → World → Nat) (f : Nat → Value) (w : World) (a' : Act) (w' : World) : Prop where
  size : a'.tmps.size = N
  defers : a'.defers = []
  rel : I (slots a'.tmps) w'
  less : μ (slots a'.tmps) w' < μ f w

/-- The relation and the measure over the slots; the round over a frame of N slots. -/
theorem wp_loop_f {P : Program} {c : Code} {Q : Exit → Act → World → Prop} {T : Array Value} {w : World} (N : Nat) (I : (Nat → Value) → World → Prop) (μ : (Nat → Value) → World → Nat) (hN : T.size = N) (h0 : I (slots T) w)
    (round : ∀ f w, I f w → c.wp P (Exit.then (RoundEnd N I μ f w) Q) ⟨frameN N f, []⟩ w) :
    (Code.loop c).wp P Q ⟨T, []⟩ w := by
  refine wp_loop (fun a w => a.tmps.size = N ∧ a.defers = [] ∧ I (slots a.tmps) w) (fun a w => μ (slots a.tmps) w) ⟨hN, rfl, h0⟩ ?_
  rintro ⟨t, d⟩ w ⟨h1, h2, h3⟩
  simp only at h1 h2 h3
  subst h2
  have hr := round (slots t) w h3
  rw [frameN_slots t N h1] at hr
  refine Code.wp_mono ?_ hr
  intro e a' w' hq
  cases e with
  | normal =>
    obtain ⟨q1, q2, q3, q4⟩ := hq
    exact ⟨⟨q1, q2, q3⟩, q4⟩
  | _ => exact hq
end Blk
end Go
