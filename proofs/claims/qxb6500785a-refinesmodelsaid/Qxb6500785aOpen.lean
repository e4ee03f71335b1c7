/- The script, opened: a slice of api.Op. -/
import Derived.Test.Qxb6500785aByte
import Derived.Test.Qxb6500785aPost
import Derived.Deep.Slices
import Derived.SizedLaws
set_option linter.unusedSimpArgs false
set_option linter.unusedVariables false
namespace Go.Proofs.Qxb6500785a
open Go.ChangeShapes Go.WideShapes Go.ChangeAt Go.RowKit Go.Blk Go.Deep
theorem Try.cells22 : Try.prog.cellsOf 22 = 1 := by kernel_rfl
theorem Try.cells44 : Try.prog.cellsOf 44 = 39 := by kernel_rfl
theorem Try.cells41 : Try.prog.cellsOf 41 = 1 := by kernel_rfl
theorem Try.cells40 : Try.prog.cellsOf 40 = 1 := by kernel_rfl
theorem Try.cells3 : Try.prog.cellsOf 3 = 1 := by kernel_rfl
theorem Try.cells5 : Try.prog.cellsOf 5 = 1 := by kernel_rfl
theorem Try.cells27 : Try.prog.cellsOf 27 = 1 := by kernel_rfl
theorem Try.cells42 : Try.prog.cellsOf 42 = 1 := by kernel_rfl
theorem Try.cells31 : Try.prog.cellsOf 31 = 32 := by kernel_rfl
theorem cell_in {W : World} {b o : Nat} {v : Value} (h : W.cell? ⟨b, o, none⟩ = some v) : ∃ C, blk W b = some C ∧ C[o]? = some v := by
  unfold World.cell? at h
  unfold blk
  split at h
  · rename_i c t fz hc
    simp at h
    simp only at hc
    rw [hc]
    exact ⟨c.toList, rfl, by simpa using h⟩
  · simp at h
/-- The slice s reads xs. -/
def BytesIn (W : World) (s : Sl) (xs : List UInt8) : Prop :=
  xs.length = s.len ∧ s.len ≤ s.cap ∧ s.cap ≤ maxLen ∧ (s.len ≠ 0 → ∃ bp op C, s.a = some ⟨bp, op, none⟩ ∧ blk W bp = some C ∧ op + s.len ≤ C.length ∧ seg C op s.len = bv xs)
section
variable {H : Type} {enc : TypeId × Value → H} {W : World} {sp : Nat → Bool} {hd : Bool} {base : Nat}
theorem u8_of_trod {fuel : Nat} {t : TypeId} {cs : List Value} {x : DataW H × List MemPlace} (hu : Try.prog.underlying t = some (.int .u8)) (h : DataW.trod enc Try.prog W base sp hd fuel t cs = some x) : ∃ y : UInt8, cs = [.int .u8 (w8 y)] := by
  obtain ⟨n, hc, _, hw⟩ := DataW.trod_int hu h
  have hb : 0 ≤ n ∧ n ≤ 255 := by
    simp [Lit.wf, IntKind.min, IntKind.max, IntKind.signed, IntKind.bits] at hw; omega
  refine ⟨UInt8.ofNat n.toNat, ?_⟩
  have e : w8 (UInt8.ofNat n.toNat) = n := by unfold w8; rw [UInt8.toNat_ofNat']; omega
  rw [hc, e]
theorem u64_of_trod {fuel : Nat} {t : TypeId} {cs : List Value} {x : DataW H × List MemPlace} (hu : Try.prog.underlying t = some (.int .u64)) (h : DataW.trod enc Try.prog W base sp hd fuel t cs = some x) : ∃ y : UInt64, cs = [.int .u64 (w64 y)] := by
  obtain ⟨n, hc, _, hw⟩ := DataW.trod_int hu h
  have hb : 0 ≤ n ∧ n ≤ 18446744073709551615 := by
    simp [Lit.wf, IntKind.min, IntKind.max, IntKind.signed, IntKind.bits] at hw; omega
  refine ⟨UInt64.ofNat n.toNat, ?_⟩
  have e : w64 (UInt64.ofNat n.toNat) = n := by unfold w64; rw [UInt64.toNat_ofNat']; omega
  rw [hc, e]
theorem i64_of_trod {fuel : Nat} {t : TypeId} {cs : List Value} {x : DataW H × List MemPlace} (hu : Try.prog.underlying t = some (.int .i64)) (h : DataW.trod enc Try.prog W base sp hd fuel t cs = some x) : ∃ y : Int, cs = [.int .i64 y] ∧ -9223372036854775808 ≤ y ∧ y ≤ 9223372036854775807 := by
  obtain ⟨n, hc, _, hw⟩ := DataW.trod_int hu h
  refine ⟨n, hc, ?_⟩
  simp [Lit.wf, IntKind.min, IntKind.max, IntKind.signed, IntKind.bits] at hw; omega
theorem Try.bytes5 : Try.prog.bytesOf 5 = 1 := by kernel_rfl
theorem weightsAll_mem {e : TypeId} : ∀ {L : List (DataW H)} {d : DataW H} {n : Nat}, d ∈ L → n ∈ d.weights Try.prog e → n ∈ DataW.weightsAll Try.prog e L
  | [], _, _, h, _ => by simp at h
  | d0 :: L, d, n, h, hn => by
    simp only [DataW.weightsAll, List.mem_append]
    rcases List.mem_cons.1 h with rfl | h
    · exact Or.inl hn
    · exact Or.inr (weightsAll_mem h hn)
theorem bytes_of_trod {fuel : Nat} {cs : List Value} {x : DataW H × List MemPlace} {R : Nat} (h : DataW.trod enc Try.prog W base sp hd fuel 40 cs = some x) (hR : ∀ n ∈ x.1.weights Try.prog 40, n ≤ R) : ∃ (s : Sl) (xs : List UInt8), cs = [Sl.val s] ∧ BytesIn W s xs ∧ s.len ≤ R := by
  rcases open_slice1 Try.underlying40 Try.cells5 h with ⟨rfl, _⟩ | ⟨a, len, cap, m, n, V, D, Pl, rfl, _, hl, hm, hmm, hxe, hV⟩
  · exact ⟨⟨none, 0, 0⟩, [], rfl, ⟨rfl, Nat.le_refl _, Nat.zero_le _, fun h => absurd rfl h⟩, Nat.zero_le _⟩
  have hle : len ≤ R := by
    have h1 := hR ((((List.range len).map D).length + ((List.range (m - len)).map fun j => D (len + j)).length) * Try.prog.bytesOf 5) (by rw [hxe]; simp [DataW.weights, Try.underlying40])
    rw [Try.bytes5] at h1
    simp at h1
    omega
  have hlm : len ≤ m := by rw [hmm]; split <;> omega
  have hy : ∀ i, ∃ y : UInt8, i < len → V i = .int .u8 (w8 y) := fun i => by
    by_cases hi : i < len
    · obtain ⟨y, hy⟩ := u8_of_trod Try.underlying5 (hV i (by omega)).2
      exact ⟨y, fun _ => by simpa using hy⟩
    · exact ⟨0, fun h => absurd h hi⟩
  obtain ⟨Y, hY⟩ := Classical.axiomOfChoice hy
  refine ⟨⟨some a, len, cap⟩, (List.range len).map Y, rfl, ⟨by simp, hl, hm, fun h0 => ?_⟩, hle⟩
  simp only at h0 ⊢
  obtain ⟨b, o, spot⟩ := a
  have hspot : spot = none := by simpa [Addr.add] using World.cell?_spot (hV 0 (by omega)).1
  subst hspot
  have hc : ∀ i, i < len → W.cell? ⟨b, o + i, none⟩ = some (.int .u8 (w8 (Y i))) := fun i hi => by
    have := (hV i (by omega)).1
    rw [add_addr, hY i hi] at this
    exact this
  obtain ⟨C, hC, _⟩ := cell_in (hc 0 (by omega))
  have hC2 : ∀ i, i < len → C[o + i]? = some (.int .u8 (w8 (Y i))) := fun i hi => by rw [← cell_blk hC]; exact hc i hi
  refine ⟨b, o, C, rfl, hC, ?_, ?_⟩
  · have := hC2 (len - 1) (by omega)
    have := (List.getElem?_eq_some_iff.1 this).1
    omega
  · apply List.ext_getElem?
    intro i
    unfold seg
    rw [List.getElem?_take]
    by_cases hi : i < len
    · rw [if_pos hi, List.getElem?_drop, hC2 i hi, bv_at _ _ (by simpa using hi)]
      simp [hi]
    · rw [if_neg hi, List.getElem?_eq_none (by rw [length_bv]; simpa using hi)]
theorem digest_of_trod {fuel : Nat} {cs : List Value} {x : DataW H × List MemPlace} (h : DataW.trod enc Try.prog W base sp hd fuel 31 cs = some x) : ∃ d : Vector UInt8 32, cs = arr u8v d := by
  obtain ⟨xs, m, _, _, hlen, hxl, hall⟩ := DataW.trod_array Try.underlying31 h
  rw [Try.cells31] at hlen
  have hy : ∀ i, ∃ y : UInt8, i < 32 → cs[i]? = some (.int .u8 (w8 y)) := fun i => by
    by_cases hi : i < 32
    · have h1 := hall i hi
      rw [Try.cells5, Nat.mul_one, List.getElem?_eq_getElem (by omega)] at h1
      obtain ⟨y, hy⟩ := u8_of_trod Try.underlying5 h1
      refine ⟨y, fun _ => ?_⟩
      have h2 : ((cs.drop i).take 1)[0]? = cs[i]? := by simp [List.getElem?_take, List.getElem?_drop]
      rw [← h2, hy]; rfl
    · exact ⟨0, fun h => absurd h hi⟩
  obtain ⟨Y, hY⟩ := Classical.axiomOfChoice hy
  refine ⟨Vector.ofFn fun i : Fin 32 => Y i.val, ?_⟩
  apply List.ext_getElem?
  intro i
  by_cases hi : i < 32
  · rw [hY i hi, arr_at _ _ hi]; simp [u8v]
  · rw [List.getElem?_eq_none (by omega), List.getElem?_eq_none (by rw [length_arr]; omega)]
def GOp.fits (g : GOp) : Prop :=
  (-9223372036854775808 ≤ g.kind ∧ g.kind ≤ 9223372036854775807) ∧ (-9223372036854775808 ≤ g.cut ∧ g.cut ≤ 9223372036854775807) ∧ (-9223372036854775808 ≤ g.n ∧ g.n ≤ 9223372036854775807)
theorem cut_list (cs : List Value) (o n : Nat) : cs.drop o = (cs.drop o).take n ++ cs.drop (o + n) := by
  rw [← List.drop_drop, List.take_append_drop]
theorem op_of_trod {fuel : Nat} {cs : List Value} {x : DataW H × List MemPlace} {R : Nat} (h : DataW.trod enc Try.prog W base sp hd fuel 44 cs = some x) (hR : ∀ n ∈ x.1.weights Try.prog 44, n ≤ R) : ∃ (g : GOp) (xs : List UInt8), cs = g.enc ∧ g.fits ∧ BytesIn W g.data xs ∧ g.data.len ≤ R := by
  obtain ⟨xs, m, _, hxe, hlen, hxl, hall⟩ := DataW.trod_struct Try.underlying44 h
  rw [Try.cells44] at hlen
  have hxl8 : xs.length = 8 := hxl
  have h0 : DataW.trod enc Try.prog W base sp hd m 41 ((cs.drop 0).take (Try.prog.cellsOf 41)) = xs[0]? := hall 0 _ rfl
  have h1 : DataW.trod enc Try.prog W base sp hd m 40 ((cs.drop 1).take (Try.prog.cellsOf 40)) = xs[1]? := hall 1 _ rfl
  have h2 : DataW.trod enc Try.prog W base sp hd m 3 ((cs.drop 2).take (Try.prog.cellsOf 3)) = xs[2]? := hall 2 _ rfl
  have h3 : DataW.trod enc Try.prog W base sp hd m 3 ((cs.drop 3).take (Try.prog.cellsOf 3)) = xs[3]? := hall 3 _ rfl
  have h4 : DataW.trod enc Try.prog W base sp hd m 5 ((cs.drop 4).take (Try.prog.cellsOf 5)) = xs[4]? := hall 4 _ rfl
  have h5 : DataW.trod enc Try.prog W base sp hd m 27 ((cs.drop 5).take (Try.prog.cellsOf 27)) = xs[5]? := hall 5 _ rfl
  have h6 : DataW.trod enc Try.prog W base sp hd m 42 ((cs.drop 6).take (Try.prog.cellsOf 42)) = xs[6]? := hall 6 _ rfl
  have h7 : DataW.trod enc Try.prog W base sp hd m 31 ((cs.drop 7).take (Try.prog.cellsOf 31)) = xs[7]? := hall 7 _ rfl
  rw [List.getElem?_eq_getElem (by omega)] at h0 h1 h2 h3 h4 h5 h6 h7
  simp only [Try.cells41, Try.cells40, Try.cells3, Try.cells5, Try.cells27, Try.cells42, Try.cells31] at h0 h1 h2 h3 h4 h5 h6 h7
  obtain ⟨y0, e0, r0⟩ := i64_of_trod Try.underlying41 h0
  obtain ⟨s, ys, e1, r1⟩ := bytes_of_trod (R := R) h1 (fun n hn => hR n (by
    rw [hxe]
    simp only [DataW.weights, Try.underlying44]
    exact DataW.weights_mem_each (j := 1) (t := 40) (d := (xs[1]'(by omega)).1) rfl (by rw [List.getElem?_map, List.getElem?_eq_getElem (by omega)]; rfl) n hn))
  obtain ⟨y2, e2, r2⟩ := i64_of_trod Try.underlying3 h2
  obtain ⟨y3, e3, r3⟩ := i64_of_trod Try.underlying3 h3
  obtain ⟨y4, e4⟩ := u8_of_trod Try.underlying5 h4
  obtain ⟨y5, e5⟩ := u64_of_trod Try.underlying27 h5
  obtain ⟨y6, e6⟩ := u8_of_trod Try.underlying42 h6
  obtain ⟨y7, e7⟩ := digest_of_trod h7
  refine ⟨⟨y0, s, y2, y3, y4, y5, y6, y7⟩, ys, ?_, ⟨r0, r2, r3⟩, r1⟩
  have hd7 : cs.drop 7 = (cs.drop 7).take 32 := (List.take_of_length_le (by simp; omega)).symm
  have hd0 : cs = cs.drop 0 := rfl
  rw [hd0, cut_list cs 0 1, cut_list cs (0 + 1) 1, cut_list cs (0 + 1 + 1) 1, cut_list cs (0 + 1 + 1 + 1) 1, cut_list cs (0 + 1 + 1 + 1 + 1) 1, cut_list cs (0 + 1 + 1 + 1 + 1 + 1) 1, cut_list cs (0 + 1 + 1 + 1 + 1 + 1 + 1) 1]
  rw [show (0 + 1 + 1 + 1 + 1 + 1 + 1 + 1 : Nat) = 7 from rfl, hd7]
  rw [ e0, e1, e2, e3, e4, e5, e6, e7]
  rfl
def ScriptAt (W : World) (a : Option Addr) (len cap : Nat) (g : Nat → GOp) (dt : Nat → List UInt8) : Prop :=
  len ≤ cap ∧ cap ≤ maxLen ∧ (∀ i, i < len → (g i).fits ∧ BytesIn W (g i).data (dt i) ∧ (g i).data.len ≤ 140737488351232) ∧
  (len ≠ 0 → ∃ b o C, a = some ⟨b, o, none⟩ ∧ blk W b = some C ∧ o + len * 39 ≤ C.length ∧ ∀ i, i < len → seg C (o + i * 39) 39 = (g i).enc)
theorem script_of_trod {fuel : Nat} {cs : List Value} {x : DataW H × List MemPlace} (h : DataW.trod enc Try.prog W base sp hd fuel 22 cs = some x) (hR : ∀ n ∈ x.1.weights Try.prog 22, n ≤ 140737488351232) : ∃ a len cap g dt, cs = [.slice a len cap] ∧ ScriptAt W a len cap g dt := by
  rcases open_slice Try.underlying22 h with ⟨rfl, _⟩ | ⟨a, len, cap, m, n, D, Pl, rfl, _, hl, hm, hmm, hxe, hV⟩
  · exact ⟨none, 0, 0, fun _ => GOp.zero, fun _ => [], rfl, Nat.le_refl _, Nat.zero_le _, fun i h => absurd h (Nat.not_lt_zero _), fun h => absurd rfl h⟩
  have hlm : len ≤ m := by rw [hmm]; split <;> omega
  rw [Try.cells44] at hV
  have hy : ∀ i, ∃ y : GOp × List UInt8, i < len → y.1.fits ∧ (BytesIn W y.1.data y.2 ∧ y.1.data.len ≤ 140737488351232) ∧ W.cells? base (a.add (i * 39)) 39 = some y.1.enc := fun i => by
    by_cases hi : i < len
    · obtain ⟨cs', h1, h2⟩ := hV i (by omega)
      obtain ⟨g, xs, rfl, hf, hb⟩ := op_of_trod (R := 140737488351232) h2 (fun n hn => hR n (by
        rw [hxe]
        simp only [DataW.weights, Try.underlying22, List.mem_cons, List.mem_append]
        exact Or.inr (Or.inl (weightsAll_mem (List.mem_map.2 ⟨i, List.mem_range.2 hi, rfl⟩) hn))))
      exact ⟨(g, xs), fun _ => ⟨hf, hb, h1⟩⟩
    · exact ⟨(GOp.zero, []), fun h => absurd h hi⟩
  obtain ⟨Y, hY⟩ := Classical.axiomOfChoice hy
  refine ⟨some a, len, cap, fun i => (Y i).1, fun i => (Y i).2, rfl, hl, hm, fun i hi => ⟨(hY i hi).1, (hY i hi).2.1⟩, fun h0 => ?_⟩
  obtain ⟨b, o, spot⟩ := a
  have hcell : ∀ i, i < len → ∀ j, j < 39 → W.cell? (Addr.add ⟨b, o, spot⟩ (i * 39 + j)) = (Y i).1.enc[j]? := fun i hi j hj => by
    have := (World.cells?_some (hY i hi).2.2).2.2 j hj
    rw [add_add] at this
    exact this
  have hspot : spot = none := by
    have h1 := hcell 0 (by omega) 0 (by omega)
    rw [List.getElem?_eq_getElem (by rw [GOp.length_enc]; omega)] at h1
    simpa [Addr.add] using World.cell?_spot h1
  subst hspot
  have hc2 : ∀ i, i < len → ∀ j, j < 39 → W.cell? ⟨b, o + (i * 39 + j), none⟩ = (Y i).1.enc[j]? := fun i hi j hj => by
    have := hcell i hi j hj
    rw [add_addr] at this
    exact this
  have h1 := hc2 0 (by omega) 0 (by omega)
  rw [List.getElem?_eq_getElem (by rw [GOp.length_enc]; omega)] at h1
  obtain ⟨C, hC, _⟩ := cell_in h1
  have hC2 : ∀ i, i < len → ∀ j, j < 39 → C[o + (i * 39 + j)]? = (Y i).1.enc[j]? := fun i hi j hj => by rw [← cell_blk hC]; exact hc2 i hi j hj
  refine ⟨b, o, C, rfl, hC, ?_, fun i hi => ?_⟩
  · have h3 := hC2 (len - 1) (by omega) 38 (by omega)
    have h4 : (Y (len - 1)).1.enc[38]? = some ((Y (len - 1)).1.enc[38]'(by rw [GOp.length_enc]; omega)) := List.getElem?_eq_getElem _
    rw [h4] at h3
    have := (List.getElem?_eq_some_iff.1 h3).1
    omega
  · apply List.ext_getElem?
    intro j
    unfold seg
    rw [List.getElem?_take]
    by_cases hj : j < 39
    · rw [if_pos hj, List.getElem?_drop, Nat.add_assoc, hC2 i hi j hj]
    · rw [if_neg hj, List.getElem?_eq_none (by rw [GOp.length_enc]; omega)]
end
end Go.Proofs.Qxb6500785a
