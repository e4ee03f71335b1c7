/- 'Out w w' b X': w' is w with X in block b, new blocks and draws besides. -/
import Derived.Test.Qxb6500786aGreatTy
set_option linter.unusedSimpArgs false
set_option linter.unusedVariables false
namespace Go
namespace Blk

def Out (w w' : World) (b : Nat) (X : List Value) : Prop := ∃ G n, w' = ext (put w b X) G n
def Ext (w w' : World) : Prop := ∃ G n, w' = ext w G n

theorem ext_zero (w : World) : ext w #[] 0 = w := by simp [ext]
theorem ext_drew (w : World) (G : Array Obj) (n : Nat) : (ext w G n).drew = ext w G (n + 1) := rfl
theorem ext_alloc (w : World) (G : Array Obj) (n : Nat) (o : Obj) : (ext w G n).alloc o = ext w (G.push o) n := by
  simp only [World.alloc, ext, Array.push_append]
theorem ext_ext (w : World) (G H : Array Obj) (n m : Nat) : ext (ext w G n) H m = ext w (G ++ H) (n + m) := by
  simp only [ext, Array.append_assoc, Nat.add_assoc]
theorem ext_put_new (w : World) (G : Array Obj) (n b : Nat) (D : List Value) (h : w.heap.size ≤ b) : ∃ G', G'.size = G.size ∧ put (ext w G n) b D = ext w G' n := by
  refine ⟨G.modify (b - w.heap.size) fun | .cells _ e f => .cells D.toArray e f | o => o, by simp, ?_⟩
  unfold put World.setRow ext
  congr 1
  apply Array.ext_getElem?
  intro i
  simp only [Array.getElem?_modify, Array.getElem?_append]
  by_cases hi : b = i
  · subst hi
    have : ¬ b < w.heap.size := by omega
    simp only [this, if_false, if_true]
    rfl
  · simp only [hi, if_false]
    by_cases h2 : i < w.heap.size
    · simp [h2]
    · have : ¬ b - w.heap.size = i - w.heap.size := by omega
      simp [h2, this]

theorem Ext.refl (w : World) : Ext w w := ⟨#[], 0, (ext_zero w).symm⟩
theorem Ext.drew {w w' : World} (h : Ext w w') : Ext w w'.drew := by obtain ⟨G, n, rfl⟩ := h; exact ⟨G, n + 1, rfl⟩
theorem Ext.alloc {w w' : World} (h : Ext w w') (o : Obj) : Ext w (w'.alloc o) := by obtain ⟨G, n, rfl⟩ := h; exact ⟨_, n, ext_alloc _ _ _ _⟩
theorem Ext.ext {w w' : World} (h : Ext w w') (H : Array Obj) (m : Nat) : Ext w (Blk.ext w' H m) := by obtain ⟨G, n, rfl⟩ := h; exact ⟨_, _, ext_ext _ _ _ _ _⟩
theorem Ext.trans {w w' w'' : World} (h : Ext w w') (h' : Ext w' w'') : Ext w w'' := by obtain ⟨G, n, rfl⟩ := h'; exact h.ext G n
theorem Ext.put_new {w w' : World} (h : Ext w w') (b : Nat) (D : List Value) (hb : w.heap.size ≤ b) : Ext w (put w' b D) := by
  obtain ⟨G, n, rfl⟩ := h
  obtain ⟨G', _, e⟩ := ext_put_new w G n b D hb
  exact ⟨G', n, e⟩
theorem Ext.size {w w' : World} (h : Ext w w') : w.heap.size ≤ w'.heap.size := by obtain ⟨G, n, rfl⟩ := h; rw [size_ext]; omega
theorem Ext.blk {w w' : World} (h : Ext w w') {b : Nat} (hb : b < w.heap.size) : blk w' b = blk w b := by obtain ⟨G, n, rfl⟩ := h; exact blk_ext _ _ _ _ hb
theorem Ext.free {w w' : World} (h : Ext w w') {b : Nat} (hb : b < w.heap.size) : free w' b = free w b := by obtain ⟨G, n, rfl⟩ := h; exact free_ext _ _ _ _ hb

theorem Out.mk0 {w : World} {b : Nat} {X : List Value} (h : blk w b = some X) : Out w w b X := ⟨#[], 0, by rw [put_same h, ext_zero]⟩
theorem Out.of_ext {w w' : World} {b : Nat} {X : List Value} (h : blk w b = some X) (he : Ext w w') : Out w w' b X := by
  obtain ⟨G, n, rfl⟩ := he; exact ⟨G, n, by rw [put_same h]⟩
theorem Out.drew {w w' : World} {b : Nat} {X : List Value} (h : Out w w' b X) : Out w w'.drew b X := Ext.drew h
theorem Out.alloc {w w' : World} {b : Nat} {X : List Value} (h : Out w w' b X) (o : Obj) : Out w (w'.alloc o) b X := Ext.alloc h o
theorem Out.ext {w w' : World} {b : Nat} {X : List Value} (h : Out w w' b X) (H : Array Obj) (m : Nat) : Out w (Blk.ext w' H m) b X := Ext.ext h H m
theorem Out.put_new {w w' : World} {b : Nat} {X : List Value} (h : Out w w' b X) (c : Nat) (D : List Value) (hc : w.heap.size ≤ c) : Out w (put w' c D) b X :=
  Ext.put_new h c D (by rw [size_put]; exact hc)
theorem Out.put {w w' : World} {b : Nat} {X : List Value} (h : Out w w' b X) (Y : List Value) (hb : b < w.heap.size) : Out w (Blk.put w' b Y) b Y := by
  obtain ⟨G, n, rfl⟩ := h
  exact ⟨G, n, by rw [put_ext _ _ _ _ _ (by rw [size_put]; exact hb), put_put]⟩
theorem Out.size {w w' : World} {b : Nat} {X : List Value} (h : Out w w' b X) : w.heap.size ≤ w'.heap.size := by have := Ext.size h; rwa [size_put] at this
theorem Out.blk_at {w w' : World} {b : Nat} {X C : List Value} (h : Out w w' b X) (hb : blk w b = some C) : blk w' b = some X := by
  have := Ext.blk h (b := b) (by rw [size_put]; exact blk_lt hb)
  rw [this, blk_put, hb]; simp
theorem Out.blk_other {w w' : World} {b c : Nat} {X : List Value} (h : Out w w' b X) (hc : c < w.heap.size) (hn : c ≠ b) : blk w' c = blk w c := by
  have := Ext.blk h (b := c) (by rw [size_put]; exact hc)
  rw [this, blk_put, if_neg hn]
theorem Out.blk_any {w w' : World} {b c : Nat} {X : List Value} (h : Out w w' b X) (hc : c < w.heap.size) : blk w' c = blk (Blk.put w b X) c :=
  Ext.blk h (by rw [size_put]; exact hc)
theorem Out.free {w w' : World} {b c : Nat} {X : List Value} (h : Out w w' b X) (hc : c < w.heap.size) : free w' c = free w c := by
  have := Ext.free h (b := c) (by rw [size_put]; exact hc)
  rw [this, free_put]
end Blk
end Go
