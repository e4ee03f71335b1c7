/-
  BLOCKS AS WHOLE LISTS: 'blk w b': what the block b holds; 'free w b': none of it is frozen; 'put w b C': the world in which it holds C; 'ext w G n': new blocks G, n draws more. Loads and stores of whole variables as list operations.
-/
import Derived.WalkKit
import Derived.Deep.MidRow
import Derived.Deep.WholeRow
set_option linter.unusedSimpArgs false
set_option linter.unusedVariables false
namespace Go
namespace Blk

def blk (w : World) (b : Nat) : Option (List Value) :=
  match w.heap[b]? with
  | some (.cells c _ _) => some c.toList
  | _ => none

def free (w : World) (b : Nat) : Bool :=
  match w.heap[b]? with
  | some (.cells _ _ fz) => fz == (0, 0)
  | _ => false

def put (w : World) (b : Nat) (C : List Value) : World := w.setRow b C.toArray
def ext (w : World) (G : Array Obj) (n : Nat) : World := { w with heap := w.heap ++ G, drawn := w.drawn + n }

theorem blk_some {w : World} {b : Nat} {C : List Value} (h : blk w b = some C) : ∃ t fz, w.heap[b]? = some (.cells C.toArray t fz) := by
  unfold blk at h
  split at h
  · rename_i c t fz hc
    simp at h
    subst h
    exact ⟨t, fz, by simpa using hc⟩
  · simp at h

theorem blk_free {w : World} {b : Nat} {C : List Value} (h : blk w b = some C) (hf : free w b = true) : ∃ t, w.heap[b]? = some (.cells C.toArray t (0, 0)) := by
  obtain ⟨t, fz, ht⟩ := blk_some h
  unfold free at hf
  rw [ht] at hf
  simp at hf
  subst hf
  exact ⟨t, ht⟩

theorem blk_mk {w : World} {b : Nat} {C : Array Value} {t : TypeId} {fz : Nat × Nat} (h : w.heap[b]? = some (.cells C t fz)) : blk w b = some C.toList := by
  unfold blk; rw [h]

theorem free_mk {w : World} {b : Nat} {C : Array Value} {t : TypeId} (h : w.heap[b]? = some (.cells C t (0, 0))) : free w b = true := by
  unfold free; rw [h]; rfl

theorem blk_lt {w : World} {b : Nat} {C : List Value} (h : blk w b = some C) : b < w.heap.size := by
  obtain ⟨t, fz, ht⟩ := blk_some h
  exact (Array.getElem?_eq_some_iff.1 ht).1

theorem size_put (w : World) (b : Nat) (C : List Value) : (put w b C).heap.size = w.heap.size := by simp [put]
theorem size_ext (w : World) (G : Array Obj) (n : Nat) : (ext w G n).heap.size = w.heap.size + G.size := by simp [ext]

theorem heap_put (w : World) (b b' : Nat) (C : List Value) : (put w b C).heap[b']? = if b' = b then (w.heap[b]?).map (fun | .cells _ e f => .cells C.toArray e f | o => o) else w.heap[b']? := by
  unfold put World.setRow
  simp only [Array.getElem?_modify]
  by_cases h : b' = b
  · subst h
    simp only [if_true]
    rfl
  · simp [h, Ne.symm h]

theorem blk_put (w : World) (b b' : Nat) (C : List Value) : blk (put w b C) b' = if b' = b then (blk w b).map (fun _ => C) else blk w b' := by
  unfold blk
  rw [heap_put]
  by_cases h : b' = b
  · subst h
    simp only [if_true]
    cases hb : w.heap[b']? with
    | none => simp
    | some o => cases o <;> simp
  · simp [h]

theorem free_put (w : World) (b b' : Nat) (C : List Value) : free (put w b C) b' = free w b' := by
  unfold free
  rw [heap_put]
  by_cases h : b' = b
  · subst h
    simp only [if_true]
    cases hb : w.heap[b']? with
    | none => simp
    | some o => cases o <;> simp
  · simp [h]

theorem heap_alloc (w : World) (o : Obj) (b : Nat) : (w.alloc o).heap[b]? = if b = w.heap.size then some o else w.heap[b]? := by
  by_cases h : b = w.heap.size
  · subst h; rw [heap_alloc_new]; simp
  · rw [if_neg h]
    by_cases h2 : b < w.heap.size
    · exact heap_alloc_old _ _ h2
    · rw [Array.getElem?_eq_none (by rw [World.size_alloc]; omega), Array.getElem?_eq_none (by omega)]

theorem blk_alloc (w : World) (C : Array Value) (t : TypeId) (b : Nat) : blk (w.alloc (.cells C t)) b = if b = w.heap.size then some C.toList else blk w b := by
  unfold blk
  rw [heap_alloc]
  by_cases h : b = w.heap.size <;> simp [h]

theorem free_alloc (w : World) (C : Array Value) (t : TypeId) (b : Nat) : free (w.alloc (.cells C t)) b = if b = w.heap.size then true else free w b := by
  unfold free
  rw [heap_alloc]
  by_cases h : b = w.heap.size <;> simp [h]

theorem blk_drew (w : World) (b : Nat) : blk w.drew b = blk w b := rfl
theorem free_drew (w : World) (b : Nat) : free w.drew b = free w b := rfl

theorem heap_ext (w : World) (G : Array Obj) (n b : Nat) : (ext w G n).heap[b]? = if b < w.heap.size then w.heap[b]? else G[b - w.heap.size]? := by
  simp only [ext, Array.getElem?_append]

theorem blk_ext (w : World) (G : Array Obj) (n b : Nat) (h : b < w.heap.size) : blk (ext w G n) b = blk w b := by
  unfold blk; rw [heap_ext, if_pos h]
theorem free_ext (w : World) (G : Array Obj) (n b : Nat) (h : b < w.heap.size) : free (ext w G n) b = free w b := by
  unfold free; rw [heap_ext, if_pos h]

theorem cell_blk {w : World} {b : Nat} {C : List Value} (h : blk w b = some C) (o : Nat) : w.cell? ⟨b, o, none⟩ = C[o]? := by
  obtain ⟨t, fz, ht⟩ := blk_some h
  rw [cell_of_row w b o _ t _ ht]; simp

theorem frozen_blk {w : World} {b : Nat} {C : List Value} (h : blk w b = some C) (hf : free w b = true) (o : Nat) : w.frozen? ⟨b, o, none⟩ = false := by
  obtain ⟨t, ht⟩ := blk_free h hf
  exact frozen_of_row w b o _ t ht

theorem setCell_blk {w : World} {b : Nat} {C : List Value} (h : blk w b = some C) (o : Nat) (v : Value) : w.setCell ⟨b, o, none⟩ v = put w b (C.set o v) := by
  obtain ⟨t, fz, ht⟩ := blk_some h
  unfold put World.setRow World.setCell
  congr 1
  apply Array.ext_getElem?
  intro i
  simp only [Array.getElem?_modify]
  by_cases hi : b = i
  · subst hi
    rw [ht]; simp
  · simp [hi]

theorem put_put (w : World) (b : Nat) (C D : List Value) : put (put w b C) b D = put w b D := by
  unfold put World.setRow
  congr 1
  apply Array.ext_getElem?
  intro i
  simp only [Array.getElem?_modify]
  by_cases hi : b = i
  · subst hi
    simp only [if_true]
    cases h : w.heap[b]? with
    | none => simp
    | some o => cases o <;> simp
  · simp [hi]

theorem put_same {w : World} {b : Nat} {C : List Value} (h : blk w b = some C) : put w b C = w := by
  obtain ⟨t, fz, ht⟩ := blk_some h
  unfold put World.setRow
  cases w with
  | mk heap tape drawn os output =>
    congr 1
    apply Array.ext_getElem?
    intro i
    simp only [Array.getElem?_modify]
    by_cases hi : b = i
    · subst hi
      simp only [if_true]
      simp only at ht
      rw [ht]; simp
    · simp [hi]

theorem put_comm (w : World) (b b' : Nat) (C D : List Value) (h : b ≠ b') : put (put w b C) b' D = put (put w b' D) b C := by
  unfold put World.setRow
  congr 1
  apply Array.ext_getElem?
  intro i
  simp only [Array.getElem?_modify]
  by_cases hi : b = i
  · subst hi; simp [Ne.symm h]
  · simp [hi]

theorem put_alloc_new (w : World) (C : Array Value) (t : TypeId) (D : List Value) : put (w.alloc (.cells C t)) w.heap.size D = w.alloc (.cells D.toArray t) :=
  World.setRow_alloc_new w C D.toArray t

theorem put_alloc_old (w : World) (o : Obj) (b : Nat) (D : List Value) (h : b < w.heap.size) : put (w.alloc o) b D = (put w b D).alloc o := by
  unfold put World.setRow World.alloc
  congr 1
  apply Array.ext_getElem?
  intro i
  simp only [Array.getElem?_modify, Array.getElem?_push, Array.size_modify]
  by_cases hi : b = i
  · subst hi
    have : ¬ b = w.heap.size := by omega
    simp [this]
  · simp [hi]

theorem put_drew (w : World) (b : Nat) (D : List Value) : put w.drew b D = (put w b D).drew := rfl

theorem put_ext (w : World) (G : Array Obj) (n b : Nat) (D : List Value) (h : b < w.heap.size) : put (ext w G n) b D = ext (put w b D) G n := by
  unfold put World.setRow ext
  congr 1
  apply Array.ext_getElem?
  intro i
  simp only [Array.getElem?_modify, Array.getElem?_append, Array.size_modify]
  by_cases hi : b = i
  · subst hi; simp [h]
  · simp [hi]

/-! ### Loads and stores -/
def splice (C : List Value) (o : Nat) (vs : List Value) : List Value := C.take o ++ vs ++ C.drop (o + vs.length)

theorem length_splice (C : List Value) (o : Nat) (vs : List Value) (h : o + vs.length ≤ C.length) : (splice C o vs).length = C.length := by
  unfold splice; simp; omega

theorem rangeAt_blk {w : World} {b : Nat} {C : List Value} (h : blk w b = some C) (o n : Nat) : w.rangeAt b o ((C.drop o).take n) := by
  intro j v hv
  rw [cell_blk h]
  rw [List.getElem?_take] at hv
  split at hv
  · rw [List.getElem?_drop] at hv; exact hv
  · simp at hv

theorem there_blk {w : World} {b : Nat} {C : List Value} (h : blk w b = some C) (hf : free w b = true) (o n : Nat) (hn : o + n ≤ C.length) : w.there b o n := by
  intro j hj
  refine ⟨?_, frozen_blk h hf _⟩
  rw [cell_blk h]
  simp; omega

theorem setCells_blk {w : World} {b : Nat} : ∀ (vs : List Value) (o : Nat) (C : List Value), blk w b = some C → o + vs.length ≤ C.length → w.setCells b o vs = put w b (splice C o vs) := by
  intro vs
  induction vs generalizing w with
  | nil =>
    intro o C h _
    simp only [World.setCells, splice, List.length_nil, Nat.add_zero, List.append_nil, List.take_append_drop]
    exact (put_same h).symm
  | cons v r ih =>
    intro o C h hl
    simp only [List.length_cons] at hl
    simp only [World.setCells]
    rw [setCell_blk h]
    rw [ih (o + 1) (C.set o v) (by rw [blk_put, h]; simp) (by simp; omega)]
    rw [put_put]
    congr 1
    unfold splice
    apply List.ext_getElem?
    intro i
    simp only [List.getElem?_append, List.length_append, List.length_take, List.length_set, List.length_cons, List.getElem?_take, List.getElem?_drop, List.getElem?_set, List.getElem?_cons]
    rcases Nat.lt_trichotomy i o with hi | hi | hi
    · have a1 : i < min (o + 1) C.length + r.length := by omega
      have a2 : i < min (o + 1) C.length := by omega
      have a3 : i < o + 1 := by omega
      have a4 : i < min o C.length + (r.length + 1) := by omega
      have a5 : i < min o C.length := by omega
      have a6 : ¬ o = i := by omega
      simp [a1, a2, a3, a4, a5, a6, hi]
    · subst hi
      have a2 : i < min (i + 1) C.length := by omega
      have a1 : i < min (i + 1) C.length + r.length := by omega
      have a4 : i < min i C.length + (r.length + 1) := by omega
      have a5 : ¬ i < min i C.length := by omega
      have a7 : i - min i C.length = 0 := by omega
      have a8 : i < C.length := by omega
      simp [a1, a2, a4, a5, a7, a8]
    · by_cases hj : i < o + 1 + r.length
      · have a1 : i < min (o + 1) C.length + r.length := by omega
        have a2 : ¬ i < min (o + 1) C.length := by omega
        have a4 : i < min o C.length + (r.length + 1) := by omega
        have a5 : ¬ i < min o C.length := by omega
        have a7 : ¬ i - min o C.length = 0 := by omega
        have a8 : i - min (o + 1) C.length = i - min o C.length - 1 := by omega
        simp [a1, a2, a4, a5, a7, a8]
      · have a1 : ¬ i < min (o + 1) C.length + r.length := by omega
        have a4 : ¬ i < min o C.length + (r.length + 1) := by omega
        have a9 : o + 1 + r.length + (i - (min (o + 1) C.length + r.length)) = o + (r.length + 1) + (i - (min o C.length + (r.length + 1))) := by omega
        have a6 : ¬ o = o + (r.length + 1) + (i - (min o C.length + (r.length + 1))) := by omega
        simp only [a1, a4, a9, a6, if_false]

/-- The load of a struct or an array. -/
theorem run_load_agg {P : Program} {w : World} {b o n : Nat} {t : TypeId} {d : TypeDesc} {C : List Value} (hb : blk w b = some C) (hn : o + n ≤ C.length)
    (hu : P.underlying t = some d) (hd : d.isRow = true) (hi : (P.info? t).map (·.size) = some n) :
    (Instr.loadAt t (.pointer (some ⟨b, o, none⟩))).run P w = .ok (.agg ((C.drop o).take n).toArray) w :=
  run_loadAt_mid w b o t _ d (rangeAt_blk hb o n) hu hd (by rw [hi]; simp; omega)

theorem run_load_one {P : Program} {w : World} {b o : Nat} {t : TypeId} {d : TypeDesc} {C : List Value} {v : Value} (hb : blk w b = some C) (hv : C[o]? = some v)
    (hu : P.underlying t = some d) (hd : d.isRow = false) :
    (Instr.loadAt t (.pointer (some ⟨b, o, none⟩))).run P w = .ok v w := by
  have hc : w.cell? ⟨b, o, none⟩ = some v := by rw [cell_blk hb]; exact hv
  have ha : (isAgg t).run P w = .ok false w := by
    unfold isAgg
    rw [Sem.run_bind, run_underlying hu w]
    cases d <;> simp_all
  simp [Instr.loadAt, Instr.sureAddr, loadVar, Sem.run_bind, ha, hc]

theorem run_store_any {P : Program} {w : World} {b o : Nat} {t : TypeId} {C : List Value} {v : Value} (hb : blk w b = some C) (hf : free w b = true) (hn : o + v.cells.size ≤ C.length)
    (hi : (P.info? t).map (·.size) = some v.cells.size) (h1 : v.cells.all (·.oneCell') = true) :
    (Instr.storeAt t (.pointer (some ⟨b, o, none⟩)) v).run P w = .ok () (put w b (splice C o v.cells.toList)) := by
  have hs : (Instr.storeAt t (.pointer (some ⟨b, o, none⟩)) (.agg v.cells)).run P w = .ok () (w.setCells b o v.cells.toList) :=
    run_storeAt_mid w b o t v.cells (there_blk hb hf o _ hn) hi h1
  have he : Instr.storeAt t (.pointer (some ⟨b, o, none⟩)) v = Instr.storeAt t (.pointer (some ⟨b, o, none⟩)) (.agg v.cells) := by
    cases v <;> rfl
  rw [he, hs, setCells_blk _ _ _ hb (by simpa using hn)]

/-! ### Parts of a block -/
theorem splice_get {C X : List Value} {o j : Nat} (h : o + X.length ≤ C.length) (hj : j < X.length) : (splice C o X)[o + j]? = X[j]? := by
  unfold splice
  have h1 : (C.take o).length = o := by simp; omega
  rw [List.append_assoc, List.getElem?_append_right (by omega), h1, Nat.add_sub_cancel_left, List.getElem?_append_left hj]

theorem splice_part {C X : List Value} {o j n : Nat} (h : o + X.length ≤ C.length) (hj : j + n ≤ X.length) : ((splice C o X).drop (o + j)).take n = (X.drop j).take n := by
  apply List.ext_getElem?
  intro i
  simp only [List.getElem?_take, List.getElem?_drop]
  split
  · rw [Nat.add_assoc, splice_get h (by omega)]
  · rfl

theorem splice_splice {C X vs : List Value} {o j : Nat} (h : o + X.length ≤ C.length) (hj : j + vs.length ≤ X.length) : splice (splice C o X) (o + j) vs = splice C o (splice X j vs) := by
  apply List.ext_getElem?
  intro i
  have l1 : (splice C o X).length = C.length := length_splice _ _ _ h
  have l2 : (splice X j vs).length = X.length := length_splice _ _ _ hj
  unfold splice at l1 l2 ⊢
  simp only [List.getElem?_append, List.getElem?_take, List.getElem?_drop, List.length_append, List.length_take, List.length_drop] at *
  rcases Nat.lt_or_ge i o with h1 | h1
  · have c1 : i < min (o + j) (min o C.length + X.length + (C.length - (o + X.length))) + vs.length := by omega
    have c2 : i < min (o + j) (min o C.length + X.length + (C.length - (o + X.length))) := by omega
    have c3 : i < o + j := by omega
    have c4 : i < min o C.length + X.length := by omega
    have c5 : i < min o C.length := by omega
    have c6 : i < min o C.length + (min j X.length + vs.length + (X.length - (j + vs.length))) := by omega
    simp [c1, c2, c3, c4, c5, c6, h1]
  · rcases Nat.lt_or_ge i (o + j) with h2 | h2
    · have c1 : i < min (o + j) (min o C.length + X.length + (C.length - (o + X.length))) + vs.length := by omega
      have c2 : i < min (o + j) (min o C.length + X.length + (C.length - (o + X.length))) := by omega
      have c4 : i < min o C.length + X.length := by omega
      have c5 : ¬ i < min o C.length := by omega
      have c6 : i < min o C.length + (min j X.length + vs.length + (X.length - (j + vs.length))) := by omega
      have c7 : i - min o C.length < min j X.length + vs.length := by omega
      have c8 : i - min o C.length < min j X.length := by omega
      have c9 : i - min o C.length < j := by omega
      simp [c1, c2, c4, c5, c6, c7, c8, c9, h2]
    · rcases Nat.lt_or_ge i (o + j + vs.length) with h3 | h3
      · have c1 : i < min (o + j) (min o C.length + X.length + (C.length - (o + X.length))) + vs.length := by omega
        have c2 : ¬ i < min (o + j) (min o C.length + X.length + (C.length - (o + X.length))) := by omega
        have c5 : ¬ i < min o C.length := by omega
        have c6 : i < min o C.length + (min j X.length + vs.length + (X.length - (j + vs.length))) := by omega
        have c7 : i - min o C.length < min j X.length + vs.length := by omega
        have c8 : ¬ i - min o C.length < min j X.length := by omega
        have c9 : i - min (o + j) (min o C.length + X.length + (C.length - (o + X.length))) = i - min o C.length - min j X.length := by omega
        simp [c1, c2, c5, c6, c7, c8, c9]
      · have c1 : ¬ i < min (o + j) (min o C.length + X.length + (C.length - (o + X.length))) + vs.length := by omega
        have c5 : ¬ i < min o C.length := by omega
        rcases Nat.lt_or_ge i (o + X.length) with h4 | h4
        · have c6 : i < min o C.length + (min j X.length + vs.length + (X.length - (j + vs.length))) := by omega
          have c7 : ¬ i - min o C.length < min j X.length + vs.length := by omega
          have d1 : o + j + vs.length + (i - (min (o + j) (min o C.length + X.length + (C.length - (o + X.length))) + vs.length)) = i := by omega
          have c4 : i < min o C.length + X.length := by omega
          have d2 : j + vs.length + (i - min o C.length - (min j X.length + vs.length)) = i - min o C.length := by omega
          simp [c1, c5, c6, c7, d1, c4, d2]
        · have c6 : ¬ i < min o C.length + (min j X.length + vs.length + (X.length - (j + vs.length))) := by omega
          have d1 : o + j + vs.length + (i - (min (o + j) (min o C.length + X.length + (C.length - (o + X.length))) + vs.length)) = i := by omega
          have c4 : ¬ i < min o C.length + X.length := by omega
          have d3 : o + (min j X.length + vs.length + (X.length - (j + vs.length))) + (i - (min o C.length + (min j X.length + vs.length + (X.length - (j + vs.length))))) = o + X.length + (i - (min o C.length + X.length)) := by omega
          simp [c1, c6, d1, c4, d3]

theorem splice_all (X Y : List Value) (h : X.length = Y.length) : splice X 0 Y = Y := by
  unfold splice
  simp [h]

theorem part_of {L pre mid post : List Value} {o m : Nat} (h : L = pre ++ (mid ++ post)) (h1 : pre.length = o) (h2 : mid.length = m) : (L.drop o).take m = mid := by
  subst h; subst h1; subst h2; simp

theorem get_of {L pre post : List Value} {v : Value} {o : Nat} (h : L = pre ++ ([v] ++ post)) (h1 : pre.length = o) : L[o]? = some v := by
  subst h; subst h1; simp

theorem splice_of {L pre mid post vs : List Value} {o : Nat} (h : L = pre ++ (mid ++ post)) (h1 : pre.length = o) (h2 : mid.length = vs.length) : splice L o vs = pre ++ (vs ++ post) := by
  subst h; subst h1
  unfold splice
  rw [← h2]
  simp [← List.drop_drop]

theorem get_sub {L X : List Value} {a m j : Nat} (h : (L.drop a).take m = X) (hj : j < X.length) : L[a + j]? = X[j]? := by
  subst h
  rw [List.getElem?_take, List.getElem?_drop]
  have : j < m := by simp at hj; omega
  simp [this]

theorem part_sub {L X : List Value} {a m j n : Nat} (h : (L.drop a).take m = X) (hj : j + n ≤ X.length) : (L.drop (a + j)).take n = (X.drop j).take n := by
  apply List.ext_getElem?
  intro i
  simp only [List.getElem?_take, List.getElem?_drop]
  split
  · rw [Nat.add_assoc, get_sub h (by omega)]
  · rfl

theorem splice_self {L X : List Value} {a m : Nat} (h : (L.drop a).take m = X) (hm : a + m ≤ L.length) : splice L a X = L := by
  subst h
  unfold splice
  have : (List.take m (List.drop a L)).length = m := by simp; omega
  rw [this, List.append_assoc, ← List.drop_drop, List.take_append_drop, List.take_append_drop]

theorem splice_over {C X Y : List Value} {o : Nat} (h : o + X.length ≤ C.length) (hl : X.length = Y.length) : splice (splice C o X) o Y = splice C o Y := by
  have h1 : (splice C o X).take o = C.take o := by
    unfold splice
    rw [List.append_assoc, List.take_append_of_le_length (by rw [List.length_take]; omega), List.take_take, Nat.min_self]
  have h2 : (splice C o X).drop (o + Y.length) = C.drop (o + Y.length) := by
    unfold splice
    have e : (C.take o ++ X).length = o + Y.length := by simp; omega
    rw [← e, List.drop_left, hl]
    rw [e]
  show (splice C o X).take o ++ Y ++ (splice C o X).drop (o + Y.length) = _
  rw [h1, h2]
  rfl

theorem splice_sub {L X vs : List Value} {a m j : Nat} (h : (L.drop a).take m = X) (hm : a + m ≤ L.length) (hj : j + vs.length ≤ m) : splice L (a + j) vs = splice L a (splice X j vs) := by
  have hl : X.length = m := by rw [← h]; simp; omega
  have hs := splice_self h hm
  calc splice L (a + j) vs = splice (splice L a X) (a + j) vs := by rw [hs]
    _ = splice L a (splice X j vs) := splice_splice (by omega) (by omega)

/-! ### Arrays -/
def arr {α : Type} {n : Nat} (f : α → Value) (v : Vector α n) : List Value := v.toList.map f
def arrS {α : Type} {n : Nat} (f : α → List Value) (v : Vector α n) : List Value := v.toList.flatMap f
theorem length_arr {α : Type} {n : Nat} (f : α → Value) (v : Vector α n) : (arr f v).length = n := by simp [arr]
theorem length_arrS {α : Type} {n m : Nat} (f : α → List Value) (v : Vector α n) (h : ∀ x, (f x).length = m) : (arrS f v).length = n * m := by
  have : ∀ l : List α, (l.flatMap f).length = l.length * m := by
    intro l
    induction l with
    | nil => simp
    | cons x r ih => simp [ih, h, Nat.add_mul, Nat.add_comm]
  unfold arrS
  rw [this]; simp
theorem arr_at {α : Type} {n i : Nat} (f : α → Value) (v : Vector α n) (h : i < n) : (arr f v)[i]? = some (f v[i]) := by
  simp [arr, h]
theorem arr_put {α : Type} {n i : Nat} (f : α → Value) (v : Vector α n) (y : α) (h : i < n) : splice (arr f v) i [f y] = arr f (v.set i y h) := by
  apply List.ext_getElem?
  intro j
  unfold splice arr
  simp only [List.length_singleton, List.append_assoc, List.getElem?_append, List.length_take, List.length_map, Vector.length_toList, List.getElem?_take, List.getElem?_drop, List.getElem?_map, List.length_cons, List.length_nil, Vector.toList_set, List.getElem?_set]
  rcases Nat.lt_trichotomy j i with hj | hj | hj
  · have c1 : j < min i n := by omega
    have c2 : ¬ i = j := by omega
    simp [c1, hj, c2]
  · subst hj
    have c1 : ¬ j < min j n := by omega
    have c2 : j - min j n = 0 := by omega
    simp [c1, c2, h]
  · have c1 : ¬ j < min i n := by omega
    have c2 : ¬ j - min i n < 1 := by omega
    have c3 : ¬ i = j := by omega
    have c4 : i + 1 + (j - min i n - 1) = j := by omega
    simp [c1, c2, c3, c4]
/-- A word's number, behind a name: else 'simp' opens 'toNat'. -/
def w8 (x : UInt8) : Int := x.toNat
def w16 (x : UInt16) : Int := x.toNat
def w32 (x : UInt32) : Int := x.toNat
def w64 (x : UInt64) : Int := x.toNat
def u8v (x : UInt8) : Value := .int .u8 (w8 x)
def u32v (x : UInt32) : Value := .int .u32 (w32 x)
def u64v (x : UInt64) : Value := .int .u64 (w64 x)
def i64v (x : Int) : Value := .int .i64 x
def boolv (x : Bool) : Value := .bool x
def strv (x : ByteArray) : Value := .string x
def ptrv (x : Option Addr) : Value := .pointer x
theorem one_arr {α : Type} {n : Nat} (f : α → Value) (v : Vector α n) (h : ∀ x, (f x).oneCell' = true) : (arr f v).all (fun v => v.oneCell') = true := by
  simp [arr, h]
theorem one_arrS {α : Type} {n : Nat} (f : α → List Value) (v : Vector α n) (h : ∀ x, (f x).all (fun v => v.oneCell') = true) : (arrS f v).all (fun v => v.oneCell') = true := by
  simp only [arrS, List.all_flatMap, List.all_eq_true]
  intro x _
  exact List.all_eq_true.1 (h x)
theorem oneC_int (k : IntKind) (n : Int) : (Value.int k n).oneCell' = true := rfl
theorem oneC_bool (b : Bool) : (Value.bool b).oneCell' = true := rfl
theorem oneC_string (s : ByteArray) : (Value.string s).oneCell' = true := rfl
theorem oneC_pointer (a : Option Addr) : (Value.pointer a).oneCell' = true := rfl
theorem oneC_slice (a : Option Addr) (l c : Nat) : (Value.slice a l c).oneCell' = true := rfl
theorem one_u8 (x : UInt8) : (u8v x).oneCell' = true := rfl
theorem one_u32 (x : UInt32) : (u32v x).oneCell' = true := rfl
theorem one_u64 (x : UInt64) : (u64v x).oneCell' = true := rfl
theorem one_i64 (x : Int) : (i64v x).oneCell' = true := rfl
theorem one_bool (x : Bool) : (boolv x).oneCell' = true := rfl
theorem one_str (x : ByteArray) : (strv x).oneCell' = true := rfl
theorem one_ptr (x : Option Addr) : (ptrv x).oneCell' = true := rfl

theorem one_arr_u8 {n : Nat} (v : Vector UInt8 n) : (arr u8v v).all (fun v => v.oneCell') = true := one_arr _ _ one_u8
theorem one_arr_u32 {n : Nat} (v : Vector UInt32 n) : (arr u32v v).all (fun v => v.oneCell') = true := one_arr _ _ one_u32
theorem one_arr_u64 {n : Nat} (v : Vector UInt64 n) : (arr u64v v).all (fun v => v.oneCell') = true := one_arr _ _ one_u64
theorem one_arr_i64 {n : Nat} (v : Vector Int n) : (arr i64v v).all (fun v => v.oneCell') = true := one_arr _ _ one_i64
theorem one_arr_bool {n : Nat} (v : Vector Bool n) : (arr boolv v).all (fun v => v.oneCell') = true := one_arr _ _ one_bool
theorem one_arr_str {n : Nat} (v : Vector ByteArray n) : (arr strv v).all (fun v => v.oneCell') = true := one_arr _ _ one_str
theorem one_arr_ptr {n : Nat} (v : Vector (Option Addr) n) : (arr ptrv v).all (fun v => v.oneCell') = true := one_arr _ _ one_ptr

/-- A slice's value. -/
structure Sl where
  a : Option Addr
  len : Nat
  cap : Nat
def Sl.val (s : Sl) : Value := .slice s.a s.len s.cap
theorem one_sl (s : Sl) : (Sl.val s).oneCell' = true := rfl
theorem one_arr_sl {n : Nat} (v : Vector Sl n) : (arr Sl.val v).all (fun v => v.oneCell') = true := one_arr _ _ one_sl

/-! ### The loads and stores as rules, at the whole operation: what stands behind 'none' is never looked into -/
def lookOr (x : Option Value) (w : World) (raw : Result Next) : Result Next :=
  match x with
  | some v => .ok (.value v) w
  | none => raw
theorem lookOr_some (v : Value) (w : World) (raw : Result Next) : lookOr (some v) w raw = .ok (.value v) w := rfl
def putOr (x : Option World) (raw : Result Next) : Result Next :=
  match x with
  | some w => .ok .skip w
  | none => raw
theorem putOr_some (w : World) (raw : Result Next) : putOr (some w) raw = .ok .skip w := rfl

def loadOp (t : TypeId) (v : Value) : Sem Next := do pure (.value (← Instr.loadAt t v))
def storeOp (t : TypeId) (a v : Value) : Sem Next := do Instr.storeAt t a v; pure .skip
def allocOp (t : TypeId) : Sem Next := do pure (.value (← Instr.alloc t true (.tuple #[])))
theorem execOp_load (a : Act) (dst : Option Tmp) (t : TypeId) (x : Operand) (ty : TypeId) (pos : String) (after : Array Edge) (guard : Option (Nat × Bool)) :
    execOp a.eval { dst, op := .load t x, type := ty, pos, after, guard } = loadOp t (a.eval x) := rfl
theorem execOp_store (a : Act) (dst : Option Tmp) (t : TypeId) (x y : Operand) (ty : TypeId) (pos : String) (after : Array Edge) (guard : Option (Nat × Bool)) :
    execOp a.eval { dst, op := .store t x y, type := ty, pos, after, guard } = storeOp t (a.eval x) (a.eval y) := rfl
theorem execOp_alloc (a : Act) (dst : Option Tmp) (t : TypeId) (ty : TypeId) (pos : String) (after : Array Edge) (guard : Option (Nat × Bool)) :
    execOp a.eval { dst, op := .alloc t, type := ty, pos, after, guard } = allocOp t := rfl

def rawLoad (P : Program) (t : TypeId) (a : Addr) (w : World) : Result Next := (loadOp t (.pointer (some a))).run P w
def rawStore (P : Program) (t : TypeId) (a : Addr) (v : Value) (w : World) : Result Next := (storeOp t (.pointer (some a)) v).run P w

/-- A part; a cell; a value's cells: behind names that nothing opens. -/
def seg (C : List Value) (o n : Nat) : List Value := (C.drop o).take n
def nth (C : List Value) (o : Nat) : Option Value := C[o]?
def cellsV (v : Value) : List Value := v.cells.toList
def okCells (n : Nat) (vs : List Value) : Bool := decide (vs.length = n) && vs.all (fun v => v.oneCell')
theorem cellsV_agg (L : List Value) : cellsV (.agg L.toArray) = L := rfl
theorem cellsV_int (k : IntKind) (n : Int) : cellsV (.int k n) = [.int k n] := rfl
theorem cellsV_bool (b : Bool) : cellsV (.bool b) = [.bool b] := rfl
theorem cellsV_string (b : ByteArray) : cellsV (.string b) = [.string b] := rfl
theorem cellsV_pointer (a : Option Addr) : cellsV (.pointer a) = [.pointer a] := rfl
theorem cellsV_slice (a : Option Addr) (l c : Nat) : cellsV (.slice a l c) = [.slice a l c] := rfl
theorem cellsV_sl (s : Sl) : cellsV (Sl.val s) = [Sl.val s] := rfl
theorem ok_int (k : IntKind) (n : Int) : okCells 1 [.int k n] = true := rfl
theorem ok_bool (b : Bool) : okCells 1 [.bool b] = true := rfl
theorem ok_string (b : ByteArray) : okCells 1 [.string b] = true := rfl
theorem ok_pointer (a : Option Addr) : okCells 1 [.pointer a] = true := rfl
theorem ok_slice (a : Option Addr) (l c : Nat) : okCells 1 [.slice a l c] = true := rfl
theorem ok_sl (s : Sl) : okCells 1 [Sl.val s] = true := rfl
theorem ok_mk {n : Nat} {vs : List Value} (h1 : vs.length = n) (h2 : vs.all (fun v => v.oneCell') = true) : okCells n vs = true := by
  simp [okCells, h1] at *; exact h2
theorem ok_arr {α : Type} {n : Nat} (f : α → Value) (v : Vector α n) (h : ∀ x, (f x).oneCell' = true) : okCells n (arr f v) = true := ok_mk (length_arr f v) (one_arr f v h)
theorem ok_arr_u8 {n : Nat} (v : Vector UInt8 n) : okCells n (arr u8v v) = true := ok_arr _ _ one_u8
theorem ok_arr_u32 {n : Nat} (v : Vector UInt32 n) : okCells n (arr u32v v) = true := ok_arr _ _ one_u32
theorem ok_arr_u64 {n : Nat} (v : Vector UInt64 n) : okCells n (arr u64v v) = true := ok_arr _ _ one_u64
theorem ok_arr_i64 {n : Nat} (v : Vector Int n) : okCells n (arr i64v v) = true := ok_arr _ _ one_i64
theorem ok_arr_sl {n : Nat} (v : Vector Sl n) : okCells n (arr Sl.val v) = true := ok_arr _ _ one_sl
theorem toList_arr {α : Type} {n : Nat} (f : α → Value) (v : Vector α n) : (arr f v).toArray.toList = arr f v := rfl
theorem nth_arr_u8 {n i : Nat} (v : Vector UInt8 n) (h : i < n) : nth (arr u8v v) i = some (.int .u8 (w8 v[i])) := arr_at _ _ h
theorem nth_arr_u32 {n i : Nat} (v : Vector UInt32 n) (h : i < n) : nth (arr u32v v) i = some (.int .u32 (w32 v[i])) := arr_at _ _ h
theorem nth_arr_u64 {n i : Nat} (v : Vector UInt64 n) (h : i < n) : nth (arr u64v v) i = some (.int .u64 (w64 v[i])) := arr_at _ _ h
theorem nth_arr_i64 {n i : Nat} (v : Vector Int n) (h : i < n) : nth (arr i64v v) i = some (.int .i64 v[i]) := arr_at _ _ h
theorem nth_arr_sl {n i : Nat} (v : Vector Sl n) (h : i < n) : nth (arr Sl.val v) i = some (Sl.val v[i]) := arr_at _ _ h
theorem put_arr_u8 {n i : Nat} (v : Vector UInt8 n) (y : UInt8) (h : i < n) : splice (arr u8v v) i [.int .u8 (w8 y)] = arr u8v (v.set i y h) := arr_put _ _ _ h
theorem put_arr_u32 {n i : Nat} (v : Vector UInt32 n) (y : UInt32) (h : i < n) : splice (arr u32v v) i [.int .u32 (w32 y)] = arr u32v (v.set i y h) := arr_put _ _ _ h
theorem put_arr_u64 {n i : Nat} (v : Vector UInt64 n) (y : UInt64) (h : i < n) : splice (arr u64v v) i [.int .u64 (w64 y)] = arr u64v (v.set i y h) := arr_put _ _ _ h
theorem put_arr_i64 {n i : Nat} (v : Vector Int n) (y : Int) (h : i < n) : splice (arr i64v v) i [.int .i64 y] = arr i64v (v.set i y h) := arr_put _ _ _ h
theorem put_arr_sl {n i : Nat} (v : Vector Sl n) (y : Sl) (h : i < n) : splice (arr Sl.val v) i [Sl.val y] = arr Sl.val (v.set i y h) := arr_put _ _ _ h
theorem seg_all (X : List Value) (n : Nat) (h : X.length = n) : seg X 0 n = X := by subst h; simp [seg]
theorem seg_arr {α : Type} {n : Nat} (f : α → Value) (v : Vector α n) : seg (arr f v) 0 n = arr f v := seg_all _ _ (length_arr f v)
theorem set_arr {α β : Type} {n : Nat} (f : α → Value) (g : β → Value) (v : Vector α n) (u : Vector β n) : splice (arr f v) 0 (arr g u) = arr g u := splice_all _ _ (by rw [length_arr, length_arr])
theorem seg_splice {C X : List Value} {o j n : Nat} (h : o + X.length ≤ C.length) (hj : j + n ≤ X.length) : seg (splice C o X) (o + j) n = seg X j n := splice_part h hj
theorem nth_splice {C X : List Value} {o j : Nat} (h : o + X.length ≤ C.length) (hj : j < X.length) : nth (splice C o X) (o + j) = nth X j := splice_get h hj
theorem nth_splice0 {C X : List Value} {o : Nat} (h : o + X.length ≤ C.length) (hj : 0 < X.length) : nth (splice C o X) o = nth X 0 := splice_get h hj
theorem seg_splice0 {C X : List Value} {o n : Nat} (h : o + X.length ≤ C.length) (hj : n ≤ X.length) : seg (splice C o X) o n = seg X 0 n := splice_part (j := 0) h (by omega)

theorem splice_splice0 {C X vs : List Value} {o : Nat} (h : o + X.length ≤ C.length) (hj : vs.length ≤ X.length) : splice (splice C o X) o vs = splice C o (splice X 0 vs) := splice_splice (j := 0) h (by omega)

theorem length_splice_if (C : List Value) (o : Nat) (vs : List Value) : (splice C o vs).length = if o + vs.length ≤ C.length then C.length else min o C.length + vs.length + (C.length - (o + vs.length)) := by
  split
  · exact length_splice _ _ _ (by assumption)
  · unfold splice
    simp only [List.length_append, List.length_take, List.length_drop]

theorem splice_snoc {C xs ys : List Value} {o : Nat} (h : o + xs.length + ys.length ≤ C.length) : splice (splice C o xs) (o + xs.length) ys = splice C o (xs ++ ys) := by
  have h1 : (splice C o xs).take (o + xs.length) = C.take o ++ xs := by
    unfold splice
    have e : (C.take o ++ xs).length = o + xs.length := by simp; omega
    rw [← e, List.take_left]
  have h2 : (splice C o xs).drop (o + xs.length + ys.length) = C.drop (o + (xs ++ ys).length) := by
    unfold splice
    have e : (C.take o ++ xs).length = o + xs.length := by simp; omega
    rw [← List.drop_drop, ← e, List.drop_left, List.drop_drop, e]
    congr 1
    simp; omega
  show (splice C o xs).take (o + xs.length) ++ ys ++ (splice C o xs).drop (o + xs.length + ys.length) = C.take o ++ (xs ++ ys) ++ C.drop (o + (xs ++ ys).length)
  rw [h1, h2]
  simp

def segAt (C : Option (List Value)) (o n : Nat) : Option Value :=
  match C with
  | some C => if o + n ≤ C.length then some (.agg (seg C o n).toArray) else none
  | none => none
def cellAt (C : Option (List Value)) (o : Nat) : Option Value :=
  match C with
  | some C => nth C o
  | none => none
def storeIn (w : World) (C : Option (List Value)) (b o n : Nat) (v : Value) : Option World :=
  match C with
  | some C => if free w b = true ∧ okCells n (cellsV v) = true ∧ o + n ≤ C.length then some (put w b (splice C o (cellsV v))) else none
  | none => none

theorem segAt_some (C : List Value) (o n : Nat) : segAt (some C) o n = if o + n ≤ C.length then some (.agg (seg C o n).toArray) else none := rfl
theorem cellAt_some (C : List Value) (o : Nat) : cellAt (some C) o = nth C o := rfl
theorem storeIn_some (w : World) (C : List Value) (b o n : Nat) (v : Value) : storeIn w (some C) b o n v = if free w b = true ∧ okCells n (cellsV v) = true ∧ o + n ≤ C.length then some (put w b (splice C o (cellsV v))) else none := rfl

theorem load_agg {P : Program} {t : TypeId} {d : TypeDesc} {n : Nat} (hu : P.underlying t = some d) (hd : d.isRow = true) (hi : (P.info? t).map (·.size) = some n) (w : World) (b o : Nat) :
    (loadOp t (.pointer (some ⟨b, o, none⟩))).run P w = lookOr (segAt (blk w b) o n) w (rawLoad P t ⟨b, o, none⟩ w) := by
  cases hb : blk w b with
  | none => rfl
  | some C =>
    rw [segAt_some]
    split
    · rename_i h
      rw [lookOr_some, loadOp, Sem.run_bind, run_load_agg hb h hu hd hi]
      rfl
    · rfl

theorem load_one {P : Program} {t : TypeId} {d : TypeDesc} (hu : P.underlying t = some d) (hd : d.isRow = false) (w : World) (b o : Nat) :
    (loadOp t (.pointer (some ⟨b, o, none⟩))).run P w = lookOr (cellAt (blk w b) o) w (rawLoad P t ⟨b, o, none⟩ w) := by
  cases hb : blk w b with
  | none => rfl
  | some C =>
    rw [cellAt_some]
    cases hv : nth C o with
    | none => rfl
    | some v =>
      rw [lookOr_some, loadOp, Sem.run_bind, run_load_one hb hv hu hd]
      rfl

theorem store_any {P : Program} {t : TypeId} {n : Nat} (hi : (P.info? t).map (·.size) = some n) (w : World) (b o : Nat) (v : Value) :
    (storeOp t (.pointer (some ⟨b, o, none⟩)) v).run P w = putOr (storeIn w (blk w b) b o n v) (rawStore P t ⟨b, o, none⟩ v w) := by
  cases hb : blk w b with
  | none => rfl
  | some C =>
    rw [storeIn_some]
    split
    · rename_i h
      obtain ⟨h1, h2, h4⟩ := h
      simp only [okCells, cellsV, Bool.and_eq_true, decide_eq_true_eq, Array.length_toList] at h2
      obtain ⟨h2, h3⟩ := h2
      replace h2 : v.cells.size = n := of_decide_eq_true h2
      rw [putOr_some, storeOp, Sem.run_bind, run_store_any hb h1 (by rw [h2]; exact h4) (by rw [h2]; exact hi) (by simpa using h3)]
      rfl
    · rfl

theorem alloc_any {P : Program} {t : TypeId} {v : Value} (hz : (P.info? t).map (·.zero) = some (some v)) (w : World) :
    (allocOp t).run P w = .ok (.value (.pointer (some ⟨w.heap.size, 0, none⟩))) (w.alloc (.cells v.cells t)) := by
  cases hi : P.info? t with
  | none => rw [hi] at hz; simp at hz
  | some i =>
    have hz' : i.zero = some v := by simpa [hi] using hz
    simp [allocOp, Instr.alloc, zeroValue, typeInfo, hi, hz', newVar, newRow]

end Blk
end Go
