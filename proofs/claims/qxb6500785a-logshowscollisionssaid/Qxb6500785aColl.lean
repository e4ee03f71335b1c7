import Derived.Test.Qxb6500785aLogA2
set_option linter.unusedSimpArgs false
set_option linter.unusedVariables false
namespace Go.Proofs.Qxb6500785a
open Go.RowKit Go.Blk
/-- The plain log after a list of notes. -/
def foldNote (L : List Ent) : ALog := L.foldl (fun A x => (noteA A x).1) ⟨[], none⟩
theorem foldNote_snoc (L : List Ent) (x : Ent) : foldNote (L ++ [x]) = (noteA (foldNote L) x).1 := by
  unfold foldNote
  rw [List.foldl_append]
  rfl
structure Good (L : List Ent) (A : ALog) : Prop where
  sub : ∀ x, x ∈ A.es ↔ x ∈ L
  yes : ∀ i j, A.fd = some (i, j) → ∃ x y, A.es[i]? = some x ∧ A.es[j]? = some y ∧ x.2 = y.2 ∧ x.1 ≠ y.1
  no : A.fd = none → ∀ x y, x ∈ A.es → y ∈ A.es → x.2 = y.2 → x.1 = y.1
theorem Good.nil : Good [] ⟨[], none⟩ := ⟨fun x => Iff.rfl, fun i j h => by simp at h, fun _ x y h => by simp at h⟩
theorem getElem?_more {es : List Ent} {i : Nat} {x : Ent} (y : Ent) (h : es[i]? = some x) : (es ++ [y])[i]? = some x := by
  rw [List.getElem?_append_left (List.getElem?_eq_some_iff.1 h).1]
  exact h
theorem Good.note {L : List Ent} {A : ALog} (h : Good L A) (x : Ent) : Good (L ++ [x]) (noteA A x).1 := by
  have hsub : ∀ z, z ∈ A.es ++ [x] ↔ z ∈ L ++ [x] := fun z => by
    rw [List.mem_append, List.mem_append, h.sub z]
  unfold noteA
  by_cases hx : x ∈ A.es
  · rw [if_pos hx]
    refine ⟨fun z => ?_, h.yes, h.no⟩
    rw [List.mem_append, h.sub z]
    constructor
    · exact .inl
    · rintro (q | q)
      · exact q
      · rw [List.mem_singleton] at q
        subst q
        exact (h.sub z).1 hx
  · rw [if_neg hx]
    cases hf : A.es.findIdx? (fun e => decide (e.2 = x.2)) with
    | none =>
      refine ⟨hsub, fun i j hij => ?_, fun hn a b ha hb hab => ?_⟩
      · obtain ⟨a, b, h1, h2, h3⟩ := h.yes i j hij
        exact ⟨a, b, getElem?_more x h1, getElem?_more x h2, h3⟩
      · have hno : ∀ e ∈ A.es, e.2 ≠ x.2 := fun e he => by
          have := List.findIdx?_eq_none_iff.1 hf e he
          simpa using this
        rcases List.mem_append.1 (show a ∈ A.es ++ [x] from ha) with ha1 | ha1
        · rcases List.mem_append.1 (show b ∈ A.es ++ [x] from hb) with hb1 | hb1
          · exact h.no hn a b ha1 hb1 hab
          · rw [List.mem_singleton] at hb1
            rw [hb1] at hab
            exact absurd hab (hno a ha1)
        · rw [List.mem_singleton] at ha1
          rcases List.mem_append.1 (show b ∈ A.es ++ [x] from hb) with hb1 | hb1
          · rw [ha1] at hab
            exact absurd hab.symm (hno b hb1)
          · rw [List.mem_singleton] at hb1
            rw [ha1, hb1]
    | some r =>
      cases hq : A.fd with
      | some q =>
        refine ⟨hsub, fun i j hij => ?_, fun hn => by simp at hn⟩
        obtain ⟨a, b, h1, h2, h3⟩ := h.yes i j (hq.trans hij)
        exact ⟨a, b, getElem?_more x h1, getElem?_more x h2, h3⟩
      | none =>
        refine ⟨hsub, fun i j hij => ?_, fun hn => by simp at hn⟩
        simp only [Option.some.injEq, Prod.mk.injEq] at hij
        obtain ⟨rfl, rfl⟩ := hij
        obtain ⟨hr, h1, _⟩ := List.findIdx?_eq_some_iff_getElem.1 hf
        have h1' : A.es[r].2 = x.2 := by simpa using h1
        refine ⟨A.es[r], x, getElem?_more x (List.getElem?_eq_some_iff.2 ⟨hr, rfl⟩), ?_, h1', fun q => hx ?_⟩
        · show (A.es ++ [x])[A.es.length]? = some x
          rw [List.getElem?_append_right (Nat.le_refl _), Nat.sub_self]
          rfl
        · have : A.es[r] = x := Prod.ext q h1'
          rw [← this]
          exact List.getElem_mem hr
theorem good_more : ∀ (M L : List Ent) (A : ALog), Good L A → Good (L ++ M) (M.foldl (fun A x => (noteA A x).1) A)
  | [], L, A, h => by rw [List.append_nil]; exact h
  | x :: M, L, A, h => by
    have := good_more M (L ++ [x]) _ (h.note x)
    rw [List.append_assoc] at this
    exact this
theorem good_fold (L : List Ent) : Good L (foldNote L) := good_more L [] _ Good.nil
/-- Two places of the list hold different inputs under one digest. -/
def Pair (L : List Ent) (i j : Nat) : Prop := i < j ∧ ∃ x y, L[i]? = some x ∧ L[j]? = some y ∧ x.2 = y.2 ∧ x.1 ≠ y.1
def collTo (L : List Ent) (i j : Nat) : Prop := ∃ i' j', (i' < i ∨ (i' = i ∧ j' < j)) ∧ Pair L i' j'
theorem collTo_zero (L : List Ent) : ¬ collTo L 0 0 := by
  rintro ⟨i, j, h, _⟩
  omega
theorem collTo_in (L : List Ent) (i : Nat) : collTo L i (i + 1) ↔ collTo L i 0 := by
  constructor
  · rintro ⟨i', j', h, hp⟩
    have := hp.1
    exact ⟨i', j', .inl (by omega), hp⟩
  · rintro ⟨i', j', h, hp⟩
    exact ⟨i', j', .inl (by omega), hp⟩
theorem collTo_step (L : List Ent) (i j : Nat) : collTo L i (j + 1) ↔ collTo L i j ∨ Pair L i j := by
  constructor
  · rintro ⟨i', j', h, hp⟩
    by_cases q : i' = i ∧ j' = j
    · obtain ⟨rfl, rfl⟩ := q
      exact .inr hp
    · exact .inl ⟨i', j', by omega, hp⟩
  · rintro (⟨i', j', h, hp⟩ | hp)
    · exact ⟨i', j', by omega, hp⟩
    · exact ⟨i, j, .inr ⟨rfl, by omega⟩, hp⟩
theorem Pair.lt {L : List Ent} {i j : Nat} (h : Pair L i j) : j < L.length := by
  obtain ⟨_, x, y, _, h2, _⟩ := h
  exact (List.getElem?_eq_some_iff.1 h2).1
theorem collTo_out (L : List Ent) (i : Nat) : collTo L i L.length ↔ collTo L (i + 1) 0 := by
  constructor
  · rintro ⟨i', j', h, hp⟩
    exact ⟨i', j', .inl (by omega), hp⟩
  · rintro ⟨i', j', h, hp⟩
    have := hp.lt
    exact ⟨i', j', by omega, hp⟩
theorem collTo_all (L : List Ent) : collTo L L.length 0 ↔ ∃ i j, Pair L i j := by
  constructor
  · rintro ⟨i', j', h, hp⟩
    exact ⟨i', j', hp⟩
  · rintro ⟨i', j', hp⟩
    have := hp.lt
    have := hp.1
    exact ⟨i', j', .inl (by omega), hp⟩
theorem Good.found {L : List Ent} {A : ALog} (h : Good L A) : A.fd.isSome = true ↔ ∃ i j, Pair L i j := by
  constructor
  · intro hs
    obtain ⟨⟨i, j⟩, hij⟩ := Option.isSome_iff_exists.1 hs
    obtain ⟨x, y, h1, h2, h3, h4⟩ := h.yes i j hij
    have hx := (h.sub x).1 (List.mem_of_getElem? h1)
    have hy := (h.sub y).1 (List.mem_of_getElem? h2)
    obtain ⟨a, ha, ea⟩ := List.getElem_of_mem hx
    obtain ⟨b, hb, eb⟩ := List.getElem_of_mem hy
    have ga : L[a]? = some x := List.getElem?_eq_some_iff.2 ⟨ha, ea⟩
    have gb : L[b]? = some y := List.getElem?_eq_some_iff.2 ⟨hb, eb⟩
    rcases Nat.lt_trichotomy a b with q | q | q
    · exact ⟨a, b, q, x, y, ga, gb, h3, h4⟩
    · subst q
      rw [ga] at gb
      obtain rfl := Option.some.inj gb
      exact absurd rfl h4
    · exact ⟨b, a, q, y, x, gb, ga, h3.symm, fun e => h4 e.symm⟩
  · rintro ⟨i, j, hlt, x, y, h1, h2, h3, h4⟩
    cases hq : A.fd with
    | some q => rfl
    | none => exact absurd (h.no hq x y ((h.sub x).2 (List.mem_of_getElem? h1)) ((h.sub y).2 (List.mem_of_getElem? h2)) h3) h4
end Go.Proofs.Qxb6500785a
