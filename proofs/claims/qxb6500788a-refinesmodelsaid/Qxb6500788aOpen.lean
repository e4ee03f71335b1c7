/- The script, opened: a slice of api.Op, each with a rule, whose body is a slice of literals. -/
import Derived.Test.Qxb6500788aVf
import Derived.Test.Qxb6500788aPost
import Derived.Deep.Slices
import Derived.SizedLaws
set_option linter.unusedSimpArgs false
set_option linter.unusedVariables false
namespace Go.Proofs.Qxb6500788a
open Go.ChangeShapes Go.WideShapes Go.ChangeAt Go.RowKit Go.Blk Go.Deep
theorem Try.cells22 : Try.prog.cellsOf 22 = 1 := by kernel_rfl
theorem Try.cells54 : Try.prog.cellsOf 54 = 18 := by kernel_rfl
theorem Try.cells52 : Try.prog.cellsOf 52 = 10 := by kernel_rfl
theorem Try.cells49 : Try.prog.cellsOf 49 = 9 := by kernel_rfl
theorem Try.cells47 : Try.prog.cellsOf 47 = 8 := by kernel_rfl
theorem Try.cells46 : Try.prog.cellsOf 46 = 2 := by kernel_rfl
theorem Try.cells87 : Try.prog.cellsOf 87 = 10 := by kernel_rfl
theorem Try.cells50 : Try.prog.cellsOf 50 = 1 := by kernel_rfl
theorem Try.cells44 : Try.prog.cellsOf 44 = 4 := by kernel_rfl
theorem Try.cells40 : Try.prog.cellsOf 40 = 1 := by kernel_rfl
theorem Try.cells41 : Try.prog.cellsOf 41 = 1 := by kernel_rfl
theorem Try.cells42 : Try.prog.cellsOf 42 = 1 := by kernel_rfl
theorem Try.cells3 : Try.prog.cellsOf 3 = 1 := by kernel_rfl
theorem Try.cells4 : Try.prog.cellsOf 4 = 1 := by kernel_rfl
theorem cell_in {W : World} {b o : Nat} {v : Value} (h : W.cell? ⟨b, o, none⟩ = some v) : ∃ C, blk W b = some C ∧ C[o]? = some v := by
  unfold World.cell? at h
  unfold blk
  split at h
  · rename_i c t fz hc
    simp at h
    simp only at hc
    rw [hc]
    exact ⟨c.toList, rfl, by simpa using h⟩
  · simp at h
/-- The slice s reads the literals L. -/
def LitsIn (W : World) (s : Sl) (L : List Literal) : Prop :=
  L.length = s.len ∧ s.len ≤ s.cap ∧ s.cap ≤ maxLen ∧ (s.len ≠ 0 → ∃ b o C, s.a = some ⟨b, o, none⟩ ∧ blk W b = some C ∧ o + s.len * 10 ≤ C.length ∧ ∀ i x, L[i]? = some x → seg C (o + i * 10) 10 = x.enc)
section
variable {H : Type} {enc : TypeId × Value → H} {W : World} {sp : Nat → Bool} {hd : Bool} {base : Nat}
theorem i64_of_trod {fuel : Nat} {t : TypeId} {cs : List Value} {x : DataW H × List MemPlace} (hu : Try.prog.underlying t = some (.int .i64)) (h : DataW.trod enc Try.prog W base sp hd fuel t cs = some x) : ∃ y : Int, cs = [.int .i64 y] := by
  obtain ⟨n, hc, _, hw⟩ := DataW.trod_int hu h
  exact ⟨n, hc⟩
theorem bool_of_trod {fuel : Nat} {t : TypeId} {cs : List Value} {x : DataW H × List MemPlace} (hu : Try.prog.underlying t = some .bool) (h : DataW.trod enc Try.prog W base sp hd fuel t cs = some x) : ∃ y : Bool, cs = [.bool y] := by
  obtain ⟨b, hc, _⟩ := DataW.trod_bool hu h
  exact ⟨b, hc⟩
theorem weightsAll_mem {e : TypeId} : ∀ {L : List (DataW H)} {d : DataW H} {n : Nat}, d ∈ L → n ∈ d.weights Try.prog e → n ∈ DataW.weightsAll Try.prog e L
  | [], _, _, h, _ => by simp at h
  | d0 :: L, d, n, h, hn => by
    simp only [DataW.weightsAll, List.mem_append]
    rcases List.mem_cons.1 h with rfl | h
    · exact Or.inl hn
    · exact Or.inr (weightsAll_mem h hn)
theorem tup_of_trod {fuel : Nat} {cs : List Value} {x : DataW H × List MemPlace} (h : DataW.trod enc Try.prog W base sp hd fuel 44 cs = some x) : ∃ d : Vector Int 4, cs = arr i64v d := by
  obtain ⟨xs, m, _, _, hlen, hxl, hall⟩ := DataW.trod_array Try.underlying44 h
  rw [Try.cells44] at hlen
  have hy : ∀ i, ∃ y : Int, i < 4 → cs[i]? = some (.int .i64 y) := fun i => by
    by_cases hi : i < 4
    · have h1 := hall i hi
      rw [Try.cells42, Nat.mul_one, List.getElem?_eq_getElem (by omega)] at h1
      obtain ⟨y, hy⟩ := i64_of_trod Try.underlying42 h1
      refine ⟨y, fun _ => ?_⟩
      have h2 : ((cs.drop i).take 1)[0]? = cs[i]? := by simp [List.getElem?_take, List.getElem?_drop]
      rw [← h2, hy]; rfl
    · exact ⟨0, fun h => absurd h hi⟩
  obtain ⟨Y, hY⟩ := Classical.axiomOfChoice hy
  refine ⟨Vector.ofFn fun i : Fin 4 => Y i.val, ?_⟩
  apply List.ext_getElem?
  intro i
  by_cases hi : i < 4
  · rw [hY i hi, arr_at _ _ hi]; simp [i64v]
  · rw [List.getElem?_eq_none (by omega), List.getElem?_eq_none (by rw [length_arr]; omega)]
theorem cut_list (cs : List Value) (o n : Nat) : cs.drop o = (cs.drop o).take n ++ cs.drop (o + n) := by
  rw [← List.drop_drop, List.take_append_drop]
theorem term_of_trod {fuel : Nat} {cs : List Value} {x : DataW H × List MemPlace} (h : DataW.trod enc Try.prog W base sp hd fuel 46 cs = some x) : ∃ m : Term, cs = m.enc := by
  obtain ⟨xs, m, _, hxe, hlen, hxl, hall⟩ := DataW.trod_struct Try.underlying46 h
  rw [Try.cells46] at hlen
  have hxl8 : xs.length = 2 := hxl
  have h0 : DataW.trod enc Try.prog W base sp hd m 4 ((cs.drop 0).take (Try.prog.cellsOf 4)) = xs[0]? := hall 0 _ rfl
  have h1 : DataW.trod enc Try.prog W base sp hd m 3 ((cs.drop 1).take (Try.prog.cellsOf 3)) = xs[1]? := hall 1 _ rfl
  rw [List.getElem?_eq_getElem (by omega)] at h0 h1
  simp only [Try.cells3, Try.cells4] at h0 h1
  obtain ⟨y0, e0⟩ := bool_of_trod Try.underlying4 h0
  obtain ⟨y1, e1⟩ := i64_of_trod Try.underlying3 h1
  refine ⟨⟨y0, y1⟩, ?_⟩
  have hdl : cs.drop 1 = (cs.drop 1).take 1 := (List.take_of_length_le (by simp; omega)).symm
  have hd0 : cs = cs.drop 0 := rfl
  rw [hd0, cut_list cs 0 1, show (0 + 1 : Nat) = 1 from rfl, hdl]
  rw [e0, e1]
  simp [Term.enc]
theorem args_of_trod {fuel : Nat} {cs : List Value} {x : DataW H × List MemPlace} (h : DataW.trod enc Try.prog W base sp hd fuel 47 cs = some x) : ∃ d : Vector Term 4, cs = arrS Term.enc d := by
  obtain ⟨xs, m, _, _, hlen, hxl, hall⟩ := DataW.trod_array Try.underlying47 h
  rw [Try.cells47] at hlen
  have hy : ∀ i, ∃ y : Term, i < 4 → (cs.drop (i * 2)).take 2 = y.enc := fun i => by
    by_cases hi : i < 4
    · have h1 := hall i hi
      rw [Try.cells46, List.getElem?_eq_getElem (by omega)] at h1
      obtain ⟨y, hy⟩ := term_of_trod h1
      exact ⟨y, fun _ => hy⟩
    · exact ⟨Term.zero, fun h => absurd h hi⟩
  obtain ⟨Y, hY⟩ := Classical.axiomOfChoice hy
  refine ⟨#v[Y 0, Y 1, Y 2, Y 3], ?_⟩
  have hd0 : cs = cs.drop 0 := rfl
  have hdl : cs.drop 6 = (cs.drop 6).take 2 := (List.take_of_length_le (by simp; omega)).symm
  have e0 : (cs.drop 0).take 2 = (Y 0).enc := hY 0 (by omega)
  have e1 : (cs.drop 2).take 2 = (Y 1).enc := hY 1 (by omega)
  have e2 : (cs.drop 4).take 2 = (Y 2).enc := hY 2 (by omega)
  have e3 : (cs.drop 6).take 2 = (Y 3).enc := hY 3 (by omega)
  rw [hd0, cut_list cs 0 2, show (0 + 2 : Nat) = 2 from rfl, cut_list cs 2 2, show (2 + 2 : Nat) = 4 from rfl, cut_list cs 4 2, show (4 + 2 : Nat) = 6 from rfl, hdl, e0, e1, e2, e3]
  simp [arrS]
theorem atom_of_trod {fuel : Nat} {cs : List Value} {x : DataW H × List MemPlace} (h : DataW.trod enc Try.prog W base sp hd fuel 49 cs = some x) : ∃ m : Atom, cs = m.enc := by
  obtain ⟨xs, m, _, hxe, hlen, hxl, hall⟩ := DataW.trod_struct Try.underlying49 h
  rw [Try.cells49] at hlen
  have hxl8 : xs.length = 2 := hxl
  have h0 : DataW.trod enc Try.prog W base sp hd m 41 ((cs.drop 0).take (Try.prog.cellsOf 41)) = xs[0]? := hall 0 _ rfl
  have h1 : DataW.trod enc Try.prog W base sp hd m 47 ((cs.drop 1).take (Try.prog.cellsOf 47)) = xs[1]? := hall 1 _ rfl
  rw [List.getElem?_eq_getElem (by omega)] at h0 h1
  simp only [Try.cells41, Try.cells47] at h0 h1
  obtain ⟨y0, e0⟩ := i64_of_trod Try.underlying41 h0
  obtain ⟨y1, e1⟩ := args_of_trod h1
  refine ⟨⟨y0, y1⟩, ?_⟩
  have hdl : cs.drop 1 = (cs.drop 1).take 8 := (List.take_of_length_le (by simp; omega)).symm
  have hd0 : cs = cs.drop 0 := rfl
  rw [hd0, cut_list cs 0 1, show (0 + 1 : Nat) = 1 from rfl, hdl]
  rw [e0, e1]
  simp [Atom.enc]
theorem lit_of_trod {fuel : Nat} {cs : List Value} {x : DataW H × List MemPlace} (h : DataW.trod enc Try.prog W base sp hd fuel 87 cs = some x) : ∃ m : Literal, cs = m.enc := by
  obtain ⟨xs, m, _, hxe, hlen, hxl, hall⟩ := DataW.trod_struct Try.underlying87 h
  rw [Try.cells87] at hlen
  have hxl8 : xs.length = 2 := hxl
  have h0 : DataW.trod enc Try.prog W base sp hd m 4 ((cs.drop 0).take (Try.prog.cellsOf 4)) = xs[0]? := hall 0 _ rfl
  have h1 : DataW.trod enc Try.prog W base sp hd m 49 ((cs.drop 1).take (Try.prog.cellsOf 49)) = xs[1]? := hall 1 _ rfl
  rw [List.getElem?_eq_getElem (by omega)] at h0 h1
  simp only [Try.cells4, Try.cells49] at h0 h1
  obtain ⟨y0, e0⟩ := bool_of_trod Try.underlying4 h0
  obtain ⟨y1, e1⟩ := atom_of_trod h1
  refine ⟨⟨y0, y1⟩, ?_⟩
  have hdl : cs.drop 1 = (cs.drop 1).take 9 := (List.take_of_length_le (by simp; omega)).symm
  have hd0 : cs = cs.drop 0 := rfl
  rw [hd0, cut_list cs 0 1, show (0 + 1 : Nat) = 1 from rfl, hdl]
  rw [e0, e1]
  simp [Literal.enc]
theorem Try.bytes87 : Try.prog.bytesOf 87 = 80 := by kernel_rfl
theorem lits_of_trod {fuel : Nat} {cs : List Value} {x : DataW H × List MemPlace} {R : Nat} (h : DataW.trod enc Try.prog W base sp hd fuel 50 cs = some x) (hR : ∀ n ∈ x.1.weights Try.prog 50, n ≤ R) : ∃ (s : Sl) (L : List Literal), cs = [Sl.val s] ∧ LitsIn W s L ∧ s.len ≤ R := by
  rcases open_slice Try.underlying50 h with ⟨rfl, _⟩ | ⟨a, len, cap, m, n, D, Pl, rfl, _, hl, hm, hmm, hxe, hV⟩
  · exact ⟨⟨none, 0, 0⟩, [], rfl, ⟨rfl, Nat.le_refl _, Nat.zero_le _, fun h => absurd rfl h⟩, Nat.zero_le _⟩
  have hle : len ≤ R := by
    have h1 := hR ((((List.range len).map D).length + ((List.range (m - len)).map fun j => D (len + j)).length) * Try.prog.bytesOf 87) (by rw [hxe]; simp [DataW.weights, Try.underlying50])
    rw [Try.bytes87] at h1
    simp at h1
    omega
  have hlm : len ≤ m := by rw [hmm]; split <;> omega
  rw [Try.cells87] at hV
  have hy : ∀ i, ∃ y : Literal, i < len → W.cells? base (a.add (i * 10)) 10 = some y.enc := fun i => by
    by_cases hi : i < len
    · obtain ⟨cs', h1, h2⟩ := hV i (by omega)
      obtain ⟨g, rfl⟩ := lit_of_trod h2
      exact ⟨g, fun _ => h1⟩
    · exact ⟨Literal.zero, fun h => absurd h hi⟩
  obtain ⟨Y, hY⟩ := Classical.axiomOfChoice hy
  refine ⟨⟨some a, len, cap⟩, (List.range len).map Y, rfl, ⟨by simp, hl, hm, fun h0 => ?_⟩, hle⟩
  simp only at h0 ⊢
  obtain ⟨b, o, spot⟩ := a
  have hcell : ∀ i, i < len → ∀ j, j < 10 → W.cell? (Addr.add ⟨b, o, spot⟩ (i * 10 + j)) = (Y i).enc[j]? := fun i hi j hj => by
    have := (World.cells?_some (hY i hi)).2.2 j hj
    rw [add_add] at this
    exact this
  have hspot : spot = none := by
    have h1 := hcell 0 (by omega) 0 (by omega)
    rw [List.getElem?_eq_getElem (by rw [Literal.length_enc]; omega)] at h1
    simpa [Addr.add] using World.cell?_spot h1
  subst hspot
  have hc2 : ∀ i, i < len → ∀ j, j < 10 → W.cell? ⟨b, o + (i * 10 + j), none⟩ = (Y i).enc[j]? := fun i hi j hj => by
    have := hcell i hi j hj
    rw [add_addr] at this
    exact this
  have h1 := hc2 0 (by omega) 0 (by omega)
  rw [List.getElem?_eq_getElem (by rw [Literal.length_enc]; omega)] at h1
  obtain ⟨C, hC, _⟩ := cell_in h1
  have hC2 : ∀ i, i < len → ∀ j, j < 10 → C[o + (i * 10 + j)]? = (Y i).enc[j]? := fun i hi j hj => by rw [← cell_blk hC]; exact hc2 i hi j hj
  refine ⟨b, o, C, rfl, hC, ?_, fun i x hx => ?_⟩
  · have h3 := hC2 (len - 1) (by omega) 9 (by omega)
    have h4 : (Y (len - 1)).enc[9]? = some ((Y (len - 1)).enc[9]'(by rw [Literal.length_enc]; omega)) := List.getElem?_eq_getElem _
    rw [h4] at h3
    have := (List.getElem?_eq_some_iff.1 h3).1
    omega
  · have hi : i < len := by have := (List.getElem?_eq_some_iff.1 hx).1; simpa using this
    have hxe' : x = Y i := by
      rw [List.getElem?_map, List.getElem?_range hi] at hx
      exact (Option.some.inj hx).symm
    rw [hxe']
    apply List.ext_getElem?
    intro j
    unfold seg
    rw [List.getElem?_take]
    by_cases hj : j < 10
    · rw [if_pos hj, List.getElem?_drop, Nat.add_assoc, hC2 i hi j hj]
    · rw [if_neg hj, List.getElem?_eq_none (by rw [Literal.length_enc]; omega)]
theorem rule_of_trod {fuel : Nat} {cs : List Value} {x : DataW H × List MemPlace} {R : Nat} (h : DataW.trod enc Try.prog W base sp hd fuel 52 cs = some x) (hR : ∀ n ∈ x.1.weights Try.prog 52, n ≤ R) : ∃ (g : GRule) (L : List Literal), cs = g.enc ∧ LitsIn W g.body L ∧ g.body.len ≤ R := by
  obtain ⟨xs, m, _, hxe, hlen, hxl, hall⟩ := DataW.trod_struct Try.underlying52 h
  rw [Try.cells52] at hlen
  have hxl8 : xs.length = 2 := hxl
  have h0 : DataW.trod enc Try.prog W base sp hd m 49 ((cs.drop 0).take (Try.prog.cellsOf 49)) = xs[0]? := hall 0 _ rfl
  have h1 : DataW.trod enc Try.prog W base sp hd m 50 ((cs.drop 9).take (Try.prog.cellsOf 50)) = xs[1]? := hall 1 _ rfl
  rw [List.getElem?_eq_getElem (by omega)] at h0 h1
  simp only [Try.cells49, Try.cells50] at h0 h1
  obtain ⟨y0, e0⟩ := atom_of_trod h0
  obtain ⟨y1, ys, e1, r1⟩ := lits_of_trod (R := R) h1 (fun n hn => hR n (by
    rw [hxe]
    simp only [DataW.weights, Try.underlying52]
    exact DataW.weights_mem_each (j := 1) (t := 50) (d := (xs[1]'(by omega)).1) rfl (by rw [List.getElem?_map, List.getElem?_eq_getElem (by omega)]; rfl) n hn))
  refine ⟨⟨y0, y1⟩, ys, ?_, r1⟩
  have hdl : cs.drop 9 = (cs.drop 9).take 1 := (List.take_of_length_le (by simp; omega)).symm
  have hd0 : cs = cs.drop 0 := rfl
  rw [hd0, cut_list cs 0 9, show (0 + 9 : Nat) = 9 from rfl, hdl]
  rw [e0, e1]
  simp [GRule.enc]
theorem op_of_trod {fuel : Nat} {cs : List Value} {x : DataW H × List MemPlace} {R : Nat} (h : DataW.trod enc Try.prog W base sp hd fuel 54 cs = some x) (hR : ∀ n ∈ x.1.weights Try.prog 54, n ≤ R) : ∃ (g : GOp) (L : List Literal), cs = g.enc ∧ LitsIn W g.rule.body L ∧ g.rule.body.len ≤ R := by
  obtain ⟨xs, m, _, hxe, hlen, hxl, hall⟩ := DataW.trod_struct Try.underlying54 h
  rw [Try.cells54] at hlen
  have hxl8 : xs.length = 6 := hxl
  have h0 : DataW.trod enc Try.prog W base sp hd m 40 ((cs.drop 0).take (Try.prog.cellsOf 40)) = xs[0]? := hall 0 _ rfl
  have h1 : DataW.trod enc Try.prog W base sp hd m 41 ((cs.drop 1).take (Try.prog.cellsOf 41)) = xs[1]? := hall 1 _ rfl
  have h2 : DataW.trod enc Try.prog W base sp hd m 44 ((cs.drop 2).take (Try.prog.cellsOf 44)) = xs[2]? := hall 2 _ rfl
  have h3 : DataW.trod enc Try.prog W base sp hd m 3 ((cs.drop 6).take (Try.prog.cellsOf 3)) = xs[3]? := hall 3 _ rfl
  have h4 : DataW.trod enc Try.prog W base sp hd m 4 ((cs.drop 7).take (Try.prog.cellsOf 4)) = xs[4]? := hall 4 _ rfl
  have h5 : DataW.trod enc Try.prog W base sp hd m 52 ((cs.drop 8).take (Try.prog.cellsOf 52)) = xs[5]? := hall 5 _ rfl
  rw [List.getElem?_eq_getElem (by omega)] at h0 h1 h2 h3 h4 h5
  simp only [Try.cells3, Try.cells4, Try.cells40, Try.cells41, Try.cells44, Try.cells52] at h0 h1 h2 h3 h4 h5
  obtain ⟨y0, e0⟩ := i64_of_trod Try.underlying40 h0
  obtain ⟨y1, e1⟩ := i64_of_trod Try.underlying41 h1
  obtain ⟨y2, e2⟩ := tup_of_trod h2
  obtain ⟨y3, e3⟩ := i64_of_trod Try.underlying3 h3
  obtain ⟨y4, e4⟩ := bool_of_trod Try.underlying4 h4
  obtain ⟨y5, ys, e5, r5⟩ := rule_of_trod (R := R) h5 (fun n hn => hR n (by
    rw [hxe]
    simp only [DataW.weights, Try.underlying54]
    exact DataW.weights_mem_each (j := 5) (t := 52) (d := (xs[5]'(by omega)).1) rfl (by rw [List.getElem?_map, List.getElem?_eq_getElem (by omega)]; rfl) n hn))
  refine ⟨⟨y0, y1, y2, y3, y4, y5⟩, ys, ?_, r5⟩
  have hdl : cs.drop 8 = (cs.drop 8).take 10 := (List.take_of_length_le (by simp; omega)).symm
  have hd0 : cs = cs.drop 0 := rfl
  rw [hd0, cut_list cs 0 1, show (0 + 1 : Nat) = 1 from rfl, cut_list cs 1 1, show (1 + 1 : Nat) = 2 from rfl, cut_list cs 2 4, show (2 + 4 : Nat) = 6 from rfl, cut_list cs 6 1, show (6 + 1 : Nat) = 7 from rfl, cut_list cs 7 1, show (7 + 1 : Nat) = 8 from rfl, hdl]
  rw [e0, e1, e2, e3, e4, e5]
  simp [GOp.enc]
def ScriptAt (W : World) (a : Option Addr) (len cap : Nat) (g : Nat → GOp) (dt : Nat → List Literal) : Prop :=
  len ≤ cap ∧ cap ≤ maxLen ∧ (∀ i, i < len → LitsIn W (g i).rule.body (dt i) ∧ (g i).rule.body.len ≤ 140737488351232) ∧
  (len ≠ 0 → ∃ b o C, a = some ⟨b, o, none⟩ ∧ blk W b = some C ∧ o + len * 18 ≤ C.length ∧ ∀ i, i < len → seg C (o + i * 18) 18 = (g i).enc)
theorem script_of_trod {fuel : Nat} {cs : List Value} {x : DataW H × List MemPlace} (h : DataW.trod enc Try.prog W base sp hd fuel 22 cs = some x) (hR : ∀ n ∈ x.1.weights Try.prog 22, n ≤ 140737488351232) : ∃ a len cap g dt, cs = [.slice a len cap] ∧ ScriptAt W a len cap g dt := by
  rcases open_slice Try.underlying22 h with ⟨rfl, _⟩ | ⟨a, len, cap, m, n, D, Pl, rfl, _, hl, hm, hmm, hxe, hV⟩
  · exact ⟨none, 0, 0, fun _ => GOp.zero, fun _ => [], rfl, Nat.le_refl _, Nat.zero_le _, fun i h => absurd h (Nat.not_lt_zero _), fun h => absurd rfl h⟩
  have hlm : len ≤ m := by rw [hmm]; split <;> omega
  rw [Try.cells54] at hV
  have hy : ∀ i, ∃ y : GOp × List Literal, i < len → (LitsIn W y.1.rule.body y.2 ∧ y.1.rule.body.len ≤ 140737488351232) ∧ W.cells? base (a.add (i * 18)) 18 = some y.1.enc := fun i => by
    by_cases hi : i < len
    · obtain ⟨cs', h1, h2⟩ := hV i (by omega)
      obtain ⟨g, xs, rfl, hb⟩ := op_of_trod (R := 140737488351232) h2 (fun n hn => hR n (by
        rw [hxe]
        simp only [DataW.weights, Try.underlying22, List.mem_cons, List.mem_append]
        exact Or.inr (Or.inl (weightsAll_mem (List.mem_map.2 ⟨i, List.mem_range.2 hi, rfl⟩) hn))))
      exact ⟨(g, xs), fun _ => ⟨hb, h1⟩⟩
    · exact ⟨(GOp.zero, []), fun h => absurd h hi⟩
  obtain ⟨Y, hY⟩ := Classical.axiomOfChoice hy
  refine ⟨some a, len, cap, fun i => (Y i).1, fun i => (Y i).2, rfl, hl, hm, fun i hi => (hY i hi).1, fun h0 => ?_⟩
  obtain ⟨b, o, spot⟩ := a
  have hcell : ∀ i, i < len → ∀ j, j < 18 → W.cell? (Addr.add ⟨b, o, spot⟩ (i * 18 + j)) = (Y i).1.enc[j]? := fun i hi j hj => by
    have := (World.cells?_some (hY i hi).2).2.2 j hj
    rw [add_add] at this
    exact this
  have hspot : spot = none := by
    have h1 := hcell 0 (by omega) 0 (by omega)
    rw [List.getElem?_eq_getElem (by rw [GOp.length_enc]; omega)] at h1
    simpa [Addr.add] using World.cell?_spot h1
  subst hspot
  have hc2 : ∀ i, i < len → ∀ j, j < 18 → W.cell? ⟨b, o + (i * 18 + j), none⟩ = (Y i).1.enc[j]? := fun i hi j hj => by
    have := hcell i hi j hj
    rw [add_addr] at this
    exact this
  have h1 := hc2 0 (by omega) 0 (by omega)
  rw [List.getElem?_eq_getElem (by rw [GOp.length_enc]; omega)] at h1
  obtain ⟨C, hC, _⟩ := cell_in h1
  have hC2 : ∀ i, i < len → ∀ j, j < 18 → C[o + (i * 18 + j)]? = (Y i).1.enc[j]? := fun i hi j hj => by rw [← cell_blk hC]; exact hc2 i hi j hj
  refine ⟨b, o, C, rfl, hC, ?_, fun i hi => ?_⟩
  · have h3 := hC2 (len - 1) (by omega) 17 (by omega)
    have h4 : (Y (len - 1)).1.enc[17]? = some ((Y (len - 1)).1.enc[17]'(by rw [GOp.length_enc]; omega)) := List.getElem?_eq_getElem _
    rw [h4] at h3
    have := (List.getElem?_eq_some_iff.1 h3).1
    omega
  · apply List.ext_getElem?
    intro j
    unfold seg
    rw [List.getElem?_take]
    by_cases hj : j < 18
    · rw [if_pos hj, List.getElem?_drop, Nat.add_assoc, hC2 i hi j hj]
    · rw [if_neg hj, List.getElem?_eq_none (by rw [GOp.length_enc]; omega)]
end
end Go.Proofs.Qxb6500788a
