/- The script, opened: a slice of api.Op, each with a string. -/
import Derived.Test.Qxb6500789aYi
import Derived.Test.Qxb6500789aPost
import Derived.Deep.Slices
import Derived.SizedLaws
set_option linter.unusedSimpArgs false
set_option linter.unusedVariables false
namespace Go.Proofs.Qxb6500789a
open Go.ChangeShapes Go.WideShapes Go.ChangeAt Go.RowKit Go.Blk Go.Deep
theorem Try.cells22 : Try.prog.cellsOf 22 = 1 := by kernel_rfl
theorem Try.cells41 : Try.prog.cellsOf 41 = 9 := by kernel_rfl
theorem Try.cells34 : Try.prog.cellsOf 34 = 1 := by kernel_rfl
theorem Try.cells35 : Try.prog.cellsOf 35 = 1 := by kernel_rfl
theorem Try.cells36 : Try.prog.cellsOf 36 = 1 := by kernel_rfl
theorem Try.cells39 : Try.prog.cellsOf 39 = 4 := by kernel_rfl
theorem Try.cells37 : Try.prog.cellsOf 37 = 1 := by kernel_rfl
theorem Try.cells3 : Try.prog.cellsOf 3 = 1 := by kernel_rfl
theorem Try.cells9 : Try.prog.cellsOf 9 = 1 := by kernel_rfl
theorem cell_in {W : World} {b o : Nat} {v : Value} (h : W.cell? ⟨b, o, none⟩ = some v) : ∃ C, blk W b = some C ∧ C[o]? = some v := by
  unfold World.cell? at h
  unfold blk
  split at h
  · rename_i c t fz hc
    simp at h
    simp only at hc
    rw [hc]
    exact ⟨c.toList, rfl, by simpa using h⟩
  · simp at h
section
variable {H : Type} {enc : TypeId × Value → H} {W : World} {sp : Nat → Bool} {hd : Bool} {base : Nat}
theorem i64_of_trod {fuel : Nat} {t : TypeId} {cs : List Value} {x : DataW H × List MemPlace} (hu : Try.prog.underlying t = some (.int .i64)) (h : DataW.trod enc Try.prog W base sp hd fuel t cs = some x) : ∃ y : Int, cs = [.int .i64 y] ∧ -9223372036854775808 ≤ y ∧ y ≤ 9223372036854775807 := by
  obtain ⟨n, hc, _, hw⟩ := DataW.trod_int hu h
  refine ⟨n, hc, ?_⟩
  simp [Lit.wf, IntKind.min, IntKind.max, IntKind.signed, IntKind.bits] at hw; omega
theorem weightsAll_mem {e : TypeId} : ∀ {L : List (DataW H)} {d : DataW H} {n : Nat}, d ∈ L → n ∈ d.weights Try.prog e → n ∈ DataW.weightsAll Try.prog e L
  | [], _, _, h, _ => by simp at h
  | d0 :: L, d, n, h, hn => by
    simp only [DataW.weightsAll, List.mem_append]
    rcases List.mem_cons.1 h with rfl | h
    · exact Or.inl hn
    · exact Or.inr (weightsAll_mem h hn)
theorem tup_of_trod {fuel : Nat} {cs : List Value} {x : DataW H × List MemPlace} (h : DataW.trod enc Try.prog W base sp hd fuel 39 cs = some x) : ∃ d : Vector Int 4, cs = arr i64v d := by
  obtain ⟨xs, m, _, _, hlen, hxl, hall⟩ := DataW.trod_array Try.underlying39 h
  rw [Try.cells39] at hlen
  have hy : ∀ i, ∃ y : Int, i < 4 → cs[i]? = some (.int .i64 y) := fun i => by
    by_cases hi : i < 4
    · have h1 := hall i hi
      rw [Try.cells37, Nat.mul_one, List.getElem?_eq_getElem (by omega)] at h1
      obtain ⟨y, hy, _⟩ := i64_of_trod Try.underlying37 h1
      refine ⟨y, fun _ => ?_⟩
      have h2 : ((cs.drop i).take 1)[0]? = cs[i]? := by simp [List.getElem?_take, List.getElem?_drop]
      rw [← h2, hy]; rfl
    · exact ⟨0, fun h => absurd h hi⟩
  obtain ⟨Y, hY⟩ := Classical.axiomOfChoice hy
  refine ⟨Vector.ofFn fun i : Fin 4 => Y i.val, ?_⟩
  apply List.ext_getElem?
  intro i
  by_cases hi : i < 4
  · rw [hY i hi, arr_at _ _ hi]; simp [i64v]
  · rw [List.getElem?_eq_none (by omega), List.getElem?_eq_none (by rw [length_arr]; omega)]
theorem cut_list (cs : List Value) (o n : Nat) : cs.drop o = (cs.drop o).take n ++ cs.drop (o + n) := by
  rw [← List.drop_drop, List.take_append_drop]
theorem op_of_trod {fuel : Nat} {cs : List Value} {x : DataW H × List MemPlace} {R : Nat} (h : DataW.trod enc Try.prog W base sp hd fuel 41 cs = some x) (hR : ∀ n ∈ x.1.weights Try.prog 41, n ≤ R) : ∃ g : GOp, cs = g.enc ∧ g.name.size ≤ R ∧ g.mask ≤ 9223372036854775807 ∧ -9223372036854775808 ≤ g.mask := by
  obtain ⟨xs, m, _, hxe, hlen, hxl, hall⟩ := DataW.trod_struct Try.underlying41 h
  rw [Try.cells41] at hlen
  have hxl6 : xs.length = 6 := hxl
  have h0 : DataW.trod enc Try.prog W base sp hd m 34 ((cs.drop 0).take (Try.prog.cellsOf 34)) = xs[0]? := hall 0 _ rfl
  have h1 : DataW.trod enc Try.prog W base sp hd m 35 ((cs.drop 1).take (Try.prog.cellsOf 35)) = xs[1]? := hall 1 _ rfl
  have h2 : DataW.trod enc Try.prog W base sp hd m 36 ((cs.drop 2).take (Try.prog.cellsOf 36)) = xs[2]? := hall 2 _ rfl
  have h3 : DataW.trod enc Try.prog W base sp hd m 39 ((cs.drop 3).take (Try.prog.cellsOf 39)) = xs[3]? := hall 3 _ rfl
  have h4 : DataW.trod enc Try.prog W base sp hd m 3 ((cs.drop 7).take (Try.prog.cellsOf 3)) = xs[4]? := hall 4 _ rfl
  have h5 : DataW.trod enc Try.prog W base sp hd m 9 ((cs.drop 8).take (Try.prog.cellsOf 9)) = xs[5]? := hall 5 _ rfl
  rw [List.getElem?_eq_getElem (by omega)] at h0 h1 h2 h3 h4 h5
  simp only [Try.cells34, Try.cells35, Try.cells36, Try.cells39, Try.cells3, Try.cells9] at h0 h1 h2 h3 h4 h5
  obtain ⟨y0, e0, r0⟩ := i64_of_trod Try.underlying34 h0
  obtain ⟨y1, e1, r1⟩ := i64_of_trod Try.underlying35 h1
  obtain ⟨y2, e2, r2⟩ := i64_of_trod Try.underlying36 h2
  obtain ⟨y3, e3⟩ := tup_of_trod h3
  obtain ⟨y4, e4, r4⟩ := i64_of_trod Try.underlying3 h4
  obtain ⟨y5, e5, w5, r5⟩ := DataW.trod_string Try.underlying9 h5
  have hsz : y5.size ≤ R := hR y5.size (by
    rw [hxe]
    simp only [DataW.weights, Try.underlying41]
    refine DataW.weights_mem_each (j := 5) (t := 9) (d := (xs[5]'(by omega)).1) rfl (by rw [List.getElem?_map, List.getElem?_eq_getElem (by omega)]; rfl) y5.size ?_
    rw [w5]
    show y5.size ∈ [y5.data.toList.length]
    rw [Array.length_toList]
    exact List.mem_singleton.2 rfl)
  refine ⟨⟨y0, y1, y2, y3, y4, y5⟩, ?_, hsz, r2.2, r2.1⟩
  have hd8 : cs.drop 8 = (cs.drop 8).take 1 := (List.take_of_length_le (by simp; omega)).symm
  have hd0 : cs = cs.drop 0 := rfl
  rw [hd0, cut_list cs 0 1, cut_list cs (0 + 1) 1, cut_list cs (0 + 1 + 1) 1, cut_list cs (0 + 1 + 1 + 1) 4, cut_list cs (0 + 1 + 1 + 1 + 4) 1]
  rw [show (0 + 1 + 1 + 1 + 4 + 1 : Nat) = 8 from rfl, hd8]
  rw [e0, e1, e2, e3, e4, e5]
  rfl
theorem script_of_trod {fuel : Nat} {cs : List Value} {x : DataW H × List MemPlace} (h : DataW.trod enc Try.prog W base sp hd fuel 22 cs = some x) (hR : ∀ n ∈ x.1.weights Try.prog 22, n ≤ 140737488351232) : ∃ a len cap g, cs = [.slice a len cap] ∧ ScriptAt W a len cap g := by
  rcases open_slice Try.underlying22 h with ⟨rfl, _⟩ | ⟨a, len, cap, m, n, D, Pl, rfl, _, hl, hm, hmm, hxe, hV⟩
  · exact ⟨none, 0, 0, fun _ => GOp.zero, rfl, Nat.le_refl _, Nat.zero_le _, fun i h => absurd h (Nat.not_lt_zero _), fun h => absurd rfl h⟩
  have hlm : len ≤ m := by rw [hmm]; split <;> omega
  rw [Try.cells41] at hV
  have hy : ∀ i, ∃ y : GOp, i < len → (y.name.size ≤ 140737488351232 ∧ y.mask ≤ 9223372036854775807 ∧ -9223372036854775808 ≤ y.mask) ∧ W.cells? base (a.add (i * 9)) 9 = some y.enc := fun i => by
    by_cases hi : i < len
    · obtain ⟨cs', h1, h2⟩ := hV i (by omega)
      obtain ⟨g, rfl, hb⟩ := op_of_trod (R := 140737488351232) h2 (fun n hn => hR n (by
        rw [hxe]
        simp only [DataW.weights, Try.underlying22, List.mem_cons, List.mem_append]
        exact Or.inr (Or.inl (weightsAll_mem (List.mem_map.2 ⟨i, List.mem_range.2 hi, rfl⟩) hn))))
      exact ⟨g, fun _ => ⟨hb, h1⟩⟩
    · exact ⟨GOp.zero, fun h => absurd h hi⟩
  obtain ⟨Y, hY⟩ := Classical.axiomOfChoice hy
  refine ⟨some a, len, cap, Y, rfl, hl, hm, fun i hi => (hY i hi).1, fun h0 => ?_⟩
  obtain ⟨b, o, spot⟩ := a
  have hcell : ∀ i, i < len → ∀ j, j < 9 → W.cell? (Addr.add ⟨b, o, spot⟩ (i * 9 + j)) = (Y i).enc[j]? := fun i hi j hj => by
    have := (World.cells?_some (hY i hi).2).2.2 j hj
    rw [add_add] at this
    exact this
  have hspot : spot = none := by
    have h1 := hcell 0 (by omega) 0 (by omega)
    rw [List.getElem?_eq_getElem (by rw [GOp.length_enc]; omega)] at h1
    simpa [Addr.add] using World.cell?_spot h1
  subst hspot
  have hc2 : ∀ i, i < len → ∀ j, j < 9 → W.cell? ⟨b, o + (i * 9 + j), none⟩ = (Y i).enc[j]? := fun i hi j hj => by
    have := hcell i hi j hj
    rw [add_addr] at this
    exact this
  have h1 := hc2 0 (by omega) 0 (by omega)
  rw [List.getElem?_eq_getElem (by rw [GOp.length_enc]; omega)] at h1
  obtain ⟨C, hC, _⟩ := cell_in h1
  have hC2 : ∀ i, i < len → ∀ j, j < 9 → C[o + (i * 9 + j)]? = (Y i).enc[j]? := fun i hi j hj => by rw [← cell_blk hC]; exact hc2 i hi j hj
  refine ⟨b, o, C, rfl, hC, ?_, fun i hi => ?_⟩
  · have h3 := hC2 (len - 1) (by omega) 8 (by omega)
    have h4 : (Y (len - 1)).enc[8]? = some ((Y (len - 1)).enc[8]'(by rw [GOp.length_enc]; omega)) := List.getElem?_eq_getElem _
    rw [h4] at h3
    have := (List.getElem?_eq_some_iff.1 h3).1
    omega
  · apply List.ext_getElem?
    intro j
    unfold seg
    rw [List.getElem?_take]
    by_cases hj : j < 9
    · rw [if_pos hj, List.getElem?_drop, Nat.add_assoc, hC2 i hi j hj]
    · rw [if_neg hj, List.getElem?_eq_none (by rw [GOp.length_enc]; omega)]
end
end Go.Proofs.Qxb6500789a
