/- The script, opened: a slice of api.Op, each with a slice of bytes. -/
import Derived.Test.Qxb6500787aGreatBt
import Derived.Test.Qxb6500787aGreatPost
import Derived.Deep.Slices
import Derived.SizedLaws
set_option linter.unusedSimpArgs false
set_option linter.unusedVariables false
namespace Go.Proofs.Qxb6500787aGreat
open Go.ChangeShapes Go.WideShapes Go.ChangeAt Go.RowKit Go.Blk Go.Deep
theorem Tryz.cells22 : Tryz.prog.cellsOf 22 = 1 := by kernel_rfl
theorem Tryz.cells70 : Tryz.prog.cellsOf 99 = 2 := by kernel_rfl
theorem Tryz.cells68 : Tryz.prog.cellsOf 97 = 1 := by kernel_rfl
theorem Tryz.cells27 : Tryz.prog.cellsOf 31 = 1 := by kernel_rfl
theorem Tryz.cells5 : Tryz.prog.cellsOf 5 = 1 := by kernel_rfl
theorem cell_in {W : World} {b o : Nat} {v : Value} (h : W.cell? ⟨b, o, none⟩ = some v) : ∃ C, blk W b = some C ∧ C[o]? = some v := by
  unfold World.cell? at h
  unfold blk
  split at h
  · rename_i c t fz hc
    simp at h
    simp only at hc
    rw [hc]
    exact ⟨c.toList, rfl, by simpa using h⟩
  · simp at h
/-- The slice s reads xs. -/
def BytesIn (W : World) (s : Sl) (xs : List UInt8) : Prop :=
  xs.length = s.len ∧ s.len ≤ s.cap ∧ s.cap ≤ maxLen ∧ (s.len ≠ 0 → ∃ bp op C, s.a = some ⟨bp, op, none⟩ ∧ blk W bp = some C ∧ op + s.len ≤ C.length ∧ seg C op s.len = bv xs)
section
variable {H : Type} {enc : TypeId × Value → H} {W : World} {sp : Nat → Bool} {hd : Bool} {base : Nat}
theorem u8_of_trod {fuel : Nat} {t : TypeId} {cs : List Value} {x : DataW H × List MemPlace} (hu : Tryz.prog.underlying t = some (.int .u8)) (h : DataW.trod enc Tryz.prog W base sp hd fuel t cs = some x) : ∃ y : UInt8, cs = [.int .u8 (w8 y)] := by
  obtain ⟨n, hc, _, hw⟩ := DataW.trod_int hu h
  have hb : 0 ≤ n ∧ n ≤ 255 := by
    simp [Lit.wf, IntKind.min, IntKind.max, IntKind.signed, IntKind.bits] at hw; omega
  refine ⟨UInt8.ofNat n.toNat, ?_⟩
  have e : w8 (UInt8.ofNat n.toNat) = n := by unfold w8; rw [UInt8.toNat_ofNat']; omega
  rw [hc, e]
theorem i64_of_trod {fuel : Nat} {t : TypeId} {cs : List Value} {x : DataW H × List MemPlace} (hu : Tryz.prog.underlying t = some (.int .i64)) (h : DataW.trod enc Tryz.prog W base sp hd fuel t cs = some x) : ∃ y : Int, cs = [.int .i64 y] ∧ -9223372036854775808 ≤ y ∧ y ≤ 9223372036854775807 := by
  obtain ⟨n, hc, _, hw⟩ := DataW.trod_int hu h
  refine ⟨n, hc, ?_⟩
  simp [Lit.wf, IntKind.min, IntKind.max, IntKind.signed, IntKind.bits] at hw; omega
theorem Tryz.bytes5 : Tryz.prog.bytesOf 5 = 1 := by kernel_rfl
theorem weightsAll_mem {e : TypeId} : ∀ {L : List (DataW H)} {d : DataW H} {n : Nat}, d ∈ L → n ∈ d.weights Tryz.prog e → n ∈ DataW.weightsAll Tryz.prog e L
  | [], _, _, h, _ => by simp at h
  | d0 :: L, d, n, h, hn => by
    simp only [DataW.weightsAll, List.mem_append]
    rcases List.mem_cons.1 h with rfl | h
    · exact Or.inl hn
    · exact Or.inr (weightsAll_mem h hn)
theorem bytes_of_trod {fuel : Nat} {cs : List Value} {x : DataW H × List MemPlace} {R : Nat} (h : DataW.trod enc Tryz.prog W base sp hd fuel 31 cs = some x) (hR : ∀ n ∈ x.1.weights Tryz.prog 31, n ≤ R) : ∃ (s : Sl) (xs : List UInt8), cs = [Sl.val s] ∧ BytesIn W s xs ∧ s.len ≤ R := by
  rcases open_slice1 Tryz.underlying31 Tryz.cells5 h with ⟨rfl, _⟩ | ⟨a, len, cap, m, n, V, D, Pl, rfl, _, hl, hm, hmm, hxe, hV⟩
  · exact ⟨⟨none, 0, 0⟩, [], rfl, ⟨rfl, Nat.le_refl _, Nat.zero_le _, fun h => absurd rfl h⟩, Nat.zero_le _⟩
  have hle : len ≤ R := by
    have h1 := hR ((((List.range len).map D).length + ((List.range (m - len)).map fun j => D (len + j)).length) * Tryz.prog.bytesOf 5) (by rw [hxe]; simp [DataW.weights, Tryz.underlying31])
    rw [Tryz.bytes5] at h1
    simp at h1
    omega
  have hlm : len ≤ m := by rw [hmm]; split <;> omega
  have hy : ∀ i, ∃ y : UInt8, i < len → V i = .int .u8 (w8 y) := fun i => by
    by_cases hi : i < len
    · obtain ⟨y, hy⟩ := u8_of_trod Tryz.underlying5 (hV i (by omega)).2
      exact ⟨y, fun _ => by simpa using hy⟩
    · exact ⟨0, fun h => absurd h hi⟩
  obtain ⟨Y, hY⟩ := Classical.axiomOfChoice hy
  refine ⟨⟨some a, len, cap⟩, (List.range len).map Y, rfl, ⟨by simp, hl, hm, fun h0 => ?_⟩, hle⟩
  simp only at h0 ⊢
  obtain ⟨b, o, spot⟩ := a
  have hspot : spot = none := by simpa [Addr.add] using World.cell?_spot (hV 0 (by omega)).1
  subst hspot
  have hc : ∀ i, i < len → W.cell? ⟨b, o + i, none⟩ = some (.int .u8 (w8 (Y i))) := fun i hi => by
    have := (hV i (by omega)).1
    rw [add_addr, hY i hi] at this
    exact this
  obtain ⟨C, hC, _⟩ := cell_in (hc 0 (by omega))
  have hC2 : ∀ i, i < len → C[o + i]? = some (.int .u8 (w8 (Y i))) := fun i hi => by rw [← cell_blk hC]; exact hc i hi
  refine ⟨b, o, C, rfl, hC, ?_, ?_⟩
  · have := hC2 (len - 1) (by omega)
    have := (List.getElem?_eq_some_iff.1 this).1
    omega
  · apply List.ext_getElem?
    intro i
    unfold seg
    rw [List.getElem?_take]
    by_cases hi : i < len
    · rw [if_pos hi, List.getElem?_drop, hC2 i hi, bv_at]
      simp [hi, u8v]
    · rw [if_neg hi, List.getElem?_eq_none (by rw [length_bv]; simpa using hi)]
theorem cut_list (cs : List Value) (o n : Nat) : cs.drop o = (cs.drop o).take n ++ cs.drop (o + n) := by
  rw [← List.drop_drop, List.take_append_drop]
theorem op_of_trod {fuel : Nat} {cs : List Value} {x : DataW H × List MemPlace} {R : Nat} (h : DataW.trod enc Tryz.prog W base sp hd fuel 99 cs = some x) (hR : ∀ n ∈ x.1.weights Tryz.prog 99, n ≤ R) : ∃ (g : GOp) (xs : List UInt8), cs = g.enc ∧ BytesIn W g.raw xs ∧ g.raw.len ≤ R := by
  obtain ⟨xs, m, _, hxe, hlen, hxl, hall⟩ := DataW.trod_struct Tryz.underlying99 h
  rw [Tryz.cells70] at hlen
  have hxl8 : xs.length = 2 := hxl
  have h0 : DataW.trod enc Tryz.prog W base sp hd m 97 ((cs.drop 0).take (Tryz.prog.cellsOf 97)) = xs[0]? := hall 0 _ rfl
  have h1 : DataW.trod enc Tryz.prog W base sp hd m 31 ((cs.drop 1).take (Tryz.prog.cellsOf 31)) = xs[1]? := hall 1 _ rfl
  rw [List.getElem?_eq_getElem (by omega)] at h0 h1
  simp only [Tryz.cells68, Tryz.cells27] at h0 h1
  obtain ⟨y0, e0, r0⟩ := i64_of_trod Tryz.underlying97 h0
  obtain ⟨s, ys, e1, r1⟩ := bytes_of_trod (R := R) h1 (fun n hn => hR n (by
    rw [hxe]
    simp only [DataW.weights, Tryz.underlying99]
    exact DataW.weights_mem_each (j := 1) (t := 31) (d := (xs[1]'(by omega)).1) rfl (by rw [List.getElem?_map, List.getElem?_eq_getElem (by omega)]; rfl) n hn))
  refine ⟨⟨y0, s⟩, ys, ?_, r1⟩
  have hd7 : cs.drop 1 = (cs.drop 1).take 1 := (List.take_of_length_le (by simp; omega)).symm
  have hd0 : cs = cs.drop 0 := rfl
  rw [hd0, cut_list cs 0 1, show (0 + 1 : Nat) = 1 from rfl, hd7, e0, e1]
  rfl
def ScriptAt (W : World) (a : Option Addr) (len cap : Nat) (g : Nat → GOp) (dt : Nat → List UInt8) : Prop :=
  len ≤ cap ∧ cap ≤ maxLen ∧ (∀ i, i < len → BytesIn W (g i).raw (dt i) ∧ (g i).raw.len ≤ 140737488351232) ∧
  (len ≠ 0 → ∃ b o C, a = some ⟨b, o, none⟩ ∧ blk W b = some C ∧ o + len * 2 ≤ C.length ∧ ∀ i, i < len → seg C (o + i * 2) 2 = (g i).enc)
theorem script_of_trod {fuel : Nat} {cs : List Value} {x : DataW H × List MemPlace} (h : DataW.trod enc Tryz.prog W base sp hd fuel 22 cs = some x) (hR : ∀ n ∈ x.1.weights Tryz.prog 22, n ≤ 140737488351232) : ∃ a len cap g dt, cs = [.slice a len cap] ∧ ScriptAt W a len cap g dt := by
  rcases open_slice Tryz.underlying22 h with ⟨rfl, _⟩ | ⟨a, len, cap, m, n, D, Pl, rfl, _, hl, hm, hmm, hxe, hV⟩
  · exact ⟨none, 0, 0, fun _ => GOp.zero, fun _ => [], rfl, Nat.le_refl _, Nat.zero_le _, fun i h => absurd h (Nat.not_lt_zero _), fun h => absurd rfl h⟩
  have hlm : len ≤ m := by rw [hmm]; split <;> omega
  rw [Tryz.cells70] at hV
  have hy : ∀ i, ∃ y : GOp × List UInt8, i < len → (BytesIn W y.1.raw y.2 ∧ y.1.raw.len ≤ 140737488351232) ∧ W.cells? base (a.add (i * 2)) 2 = some y.1.enc := fun i => by
    by_cases hi : i < len
    · obtain ⟨cs', h1, h2⟩ := hV i (by omega)
      obtain ⟨g, xs, rfl, hb⟩ := op_of_trod (R := 140737488351232) h2 (fun n hn => hR n (by
        rw [hxe]
        simp only [DataW.weights, Tryz.underlying22, List.mem_cons, List.mem_append]
        exact Or.inr (Or.inl (weightsAll_mem (List.mem_map.2 ⟨i, List.mem_range.2 hi, rfl⟩) hn))))
      exact ⟨(g, xs), fun _ => ⟨hb, h1⟩⟩
    · exact ⟨(GOp.zero, []), fun h => absurd h hi⟩
  obtain ⟨Y, hY⟩ := Classical.axiomOfChoice hy
  refine ⟨some a, len, cap, fun i => (Y i).1, fun i => (Y i).2, rfl, hl, hm, fun i hi => (hY i hi).1, fun h0 => ?_⟩
  obtain ⟨b, o, spot⟩ := a
  have hcell : ∀ i, i < len → ∀ j, j < 2 → W.cell? (Addr.add ⟨b, o, spot⟩ (i * 2 + j)) = (Y i).1.enc[j]? := fun i hi j hj => by
    have := (World.cells?_some (hY i hi).2).2.2 j hj
    rw [add_add] at this
    exact this
  have hspot : spot = none := by
    have h1 := hcell 0 (by omega) 0 (by omega)
    rw [List.getElem?_eq_getElem (by rw [GOp.length_enc]; omega)] at h1
    simpa [Addr.add] using World.cell?_spot h1
  subst hspot
  have hc2 : ∀ i, i < len → ∀ j, j < 2 → W.cell? ⟨b, o + (i * 2 + j), none⟩ = (Y i).1.enc[j]? := fun i hi j hj => by
    have := hcell i hi j hj
    rw [add_addr] at this
    exact this
  have h1 := hc2 0 (by omega) 0 (by omega)
  rw [List.getElem?_eq_getElem (by rw [GOp.length_enc]; omega)] at h1
  obtain ⟨C, hC, _⟩ := cell_in h1
  have hC2 : ∀ i, i < len → ∀ j, j < 2 → C[o + (i * 2 + j)]? = (Y i).1.enc[j]? := fun i hi j hj => by rw [← cell_blk hC]; exact hc2 i hi j hj
  refine ⟨b, o, C, rfl, hC, ?_, fun i hi => ?_⟩
  · have h3 := hC2 (len - 1) (by omega) 1 (by omega)
    have h4 : (Y (len - 1)).1.enc[1]? = some ((Y (len - 1)).1.enc[1]'(by rw [GOp.length_enc]; omega)) := List.getElem?_eq_getElem _
    rw [h4] at h3
    have := (List.getElem?_eq_some_iff.1 h3).1
    omega
  · apply List.ext_getElem?
    intro j
    unfold seg
    rw [List.getElem?_take]
    by_cases hj : j < 2
    · rw [if_pos hj, List.getElem?_drop, Nat.add_assoc, hC2 i hi j hj]
    · rw [if_neg hj, List.getElem?_eq_none (by rw [GOp.length_enc]; omega)]
end
end Go.Proofs.Qxb6500787aGreat
