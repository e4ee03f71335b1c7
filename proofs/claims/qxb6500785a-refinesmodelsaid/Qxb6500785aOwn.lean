/- Own byte slices that grow: append, slice literals. -/
import Derived.Test.Qxb6500785aWordAt
import Derived.Laws.AppendOwn
import Derived.Extends
set_option linter.unusedSimpArgs false
set_option linter.unusedVariables false
namespace Go.Proofs.Qxb6500785a
open Go.RowKit Go.Blk

def OwnB (base : Nat) (w : World) (v : Value) (xs : List UInt8) : Prop := w.ownsRow base 5 1 v xs.length (bv xs)

theorem append_own (base : Nat) (w : World) (ty : TypeId) (v : Value) (xs ys : List UInt8) (sp : Option Addr) (c : Nat) (h : OwnB base w v xs) (hs : srcB w sp ys.length = some (bv ys)) (hb : base ≤ w.heap.size) (hl : xs.length + ys.length ≤ 70368744177664) :
    ∃ v' w', (Builtin.append_ #[40, 40] ty #[v, .slice sp ys.length c]).run Try.prog w = .ok v' w' ∧ OwnB base w' v' (xs ++ ys) ∧ w.grownBy w' v.ownBlock := by
  obtain ⟨i, hi, hz, hsz, hby⟩ : ∃ i, Try.prog.info? 5 = some i ∧ i.zero = some (.int .u8 0) ∧ i.size = 1 ∧ i.bytes = 1 := by
    have hq : (Try.prog.info? 5).map (fun i => (i.zero, i.size, i.bytes)) = some (some (.int .u8 0), 1, 1) := by kernel_rfl
    cases hx : Try.prog.info? 5 with
    | none => rw [hx] at hq; simp at hq
    | some i =>
      rw [hx] at hq
      simp only [Option.map_some, Option.some.injEq, Prod.mk.injEq] at hq
      exact ⟨i, rfl, hq.1, hq.2.1, hq.2.2⟩
  by_cases h0 : ys = []
  · subst h0
    refine ⟨v, w, ?_, by rw [List.append_nil]; exact h, ⟨rfl, rfl, rfl, Nat.le_refl _, fun _ _ _ => rfl⟩⟩
    have hl0 : ∀ (x : Addr), (loadCells x 0).run Try.prog w = .ok #[] w := fun x => by simpa using run_loadCells_list (P := Try.prog) w x [] (by simp)
    obtain ⟨_, h | h⟩ := h
    · rw [h.1]
      cases sp <;> simp [Builtin.append_, run_underlying Try.underlying40, sizeOf, typeInfo, hi, hsz, Builtin.lenOf, Builtin.firstCells, hl0, storeCells]
    · obtain ⟨g, cap, cur, rfl, h1, h2, h3, h4, h5, h6⟩ := h
      cases sp <;> simp [Builtin.append_, run_underlying Try.underlying40, sizeOf, typeInfo, hi, hsz, Builtin.lenOf, Builtin.firstCells, h3, hl0, storeCells]
  · have hpos : 0 < ys.length := List.length_pos_iff.2 h0
    obtain ⟨b, o, S, rfl, hS, hfit, hseg⟩ : ∃ b o S, sp = some ⟨b, o, none⟩ ∧ blk w b = some S ∧ o + ys.length ≤ S.length ∧ seg S o ys.length = bv ys := by
      unfold srcB at hs
      rw [if_neg (by omega)] at hs
      split at hs
      · rename_i b o
        split at hs
        · rename_i S hS
          split at hs
          · rename_i hf
            exact ⟨b, o, S, rfl, hS, hf, by simpa using hs⟩
          · simp at hs
        · simp at hs
      · simp at hs
    obtain ⟨v', w', hr, h1, h2, _⟩ := run_append_own (P := Try.prog) w base 40 ty 5 i (.int .u8 0) 1 1 Try.underlying40 hi hz hsz hby rfl (by decide) v xs.length (bv xs) h ⟨b, o, none⟩ ys.length c (bv ys) (by rw [length_bv]; omega)
      (by
        intro j u hu
        rw [add_addr, cell_blk hS]
        rw [← hseg] at hu
        unfold seg at hu
        rw [List.getElem?_take] at hu
        split at hu
        · rw [List.getElem?_drop] at hu; exact hu
        · simp at hu)
      (by have := one_bv ys; simpa using this) (by simp only [maxLen]; omega) (by omega) hb
    refine ⟨v', w', hr, ?_, h2⟩
    unfold OwnB
    rw [List.length_append, bv_append]
    exact h1
end Go.Proofs.Qxb6500785a
