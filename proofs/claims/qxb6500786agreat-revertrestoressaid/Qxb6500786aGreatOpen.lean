/- The script, opened: a slice of api.Op, each with a slice of Tx. -/
import Derived.Test.Qxb6500786aGreatEl
import Derived.Test.Qxb6500786aGreatPost
import Derived.Deep.Slices
import Derived.SizedLaws
set_option linter.unusedSimpArgs false
set_option linter.unusedVariables false
namespace Go.Proofs.Qxb6500786aGreat
open Go.ChangeShapes Go.WideShapes Go.ChangeAt Go.RowKit Go.Blk Go.Deep
theorem Tryz.cells22 : Tryz.prog.cellsOf 22 = 1 := by kernel_rfl
theorem Tryz.cells43 : Tryz.prog.cellsOf 43 = 90 := by kernel_rfl
theorem Tryz.cells40 : Tryz.prog.cellsOf 40 = 83 := by kernel_rfl
theorem Tryz.cells38 : Tryz.prog.cellsOf 38 = 41 := by kernel_rfl
theorem Tryz.cells35 : Tryz.prog.cellsOf 35 = 32 := by kernel_rfl
theorem Tryz.cells41 : Tryz.prog.cellsOf 41 = 1 := by kernel_rfl
theorem Tryz.cells30 : Tryz.prog.cellsOf 30 = 1 := by kernel_rfl
theorem Tryz.cells31 : Tryz.prog.cellsOf 31 = 1 := by kernel_rfl
theorem Tryz.cells36 : Tryz.prog.cellsOf 36 = 1 := by kernel_rfl
theorem Tryz.cells28 : Tryz.prog.cellsOf 28 = 1 := by kernel_rfl
theorem Tryz.cells32 : Tryz.prog.cellsOf 32 = 1 := by kernel_rfl
theorem Tryz.cells33 : Tryz.prog.cellsOf 33 = 1 := by kernel_rfl
theorem Tryz.cells34 : Tryz.prog.cellsOf 34 = 1 := by kernel_rfl
theorem Tryz.cells5 : Tryz.prog.cellsOf 5 = 1 := by kernel_rfl
theorem cell_in {W : World} {b o : Nat} {v : Value} (h : W.cell? ⟨b, o, none⟩ = some v) : ∃ C, blk W b = some C ∧ C[o]? = some v := by
  unfold World.cell? at h
  unfold blk
  split at h
  · rename_i c t fz hc
    simp at h
    simp only at hc
    rw [hc]
    exact ⟨c.toList, rfl, by simpa using h⟩
  · simp at h
/-- The slice s reads the transactions L. -/
def TxsIn (W : World) (s : Sl) (L : List Tx) : Prop :=
  L.length = s.len ∧ s.len ≤ s.cap ∧ s.cap ≤ maxLen ∧ (s.len ≠ 0 → ∃ b o C, s.a = some ⟨b, o, none⟩ ∧ blk W b = some C ∧ o + s.len * 83 ≤ C.length ∧ ∀ i x, L[i]? = some x → seg C (o + i * 83) 83 = x.enc)
section
variable {H : Type} {enc : TypeId × Value → H} {W : World} {sp : Nat → Bool} {hd : Bool} {base : Nat}
theorem u8_of_trod {fuel : Nat} {t : TypeId} {cs : List Value} {x : DataW H × List MemPlace} (hu : Tryz.prog.underlying t = some (.int .u8)) (h : DataW.trod enc Tryz.prog W base sp hd fuel t cs = some x) : ∃ y : UInt8, cs = [.int .u8 (w8 y)] := by
  obtain ⟨n, hc, _, hw⟩ := DataW.trod_int hu h
  have hb : 0 ≤ n ∧ n ≤ 255 := by
    simp [Lit.wf, IntKind.min, IntKind.max, IntKind.signed, IntKind.bits] at hw; omega
  refine ⟨UInt8.ofNat n.toNat, ?_⟩
  have e : w8 (UInt8.ofNat n.toNat) = n := by unfold w8; rw [UInt8.toNat_ofNat']; omega
  rw [hc, e]
theorem u64_of_trod {fuel : Nat} {t : TypeId} {cs : List Value} {x : DataW H × List MemPlace} (hu : Tryz.prog.underlying t = some (.int .u64)) (h : DataW.trod enc Tryz.prog W base sp hd fuel t cs = some x) : ∃ y : UInt64, cs = [.int .u64 (w64 y)] := by
  obtain ⟨n, hc, _, hw⟩ := DataW.trod_int hu h
  have hb : 0 ≤ n ∧ n ≤ 18446744073709551615 := by
    simp [Lit.wf, IntKind.min, IntKind.max, IntKind.signed, IntKind.bits] at hw; omega
  refine ⟨UInt64.ofNat n.toNat, ?_⟩
  have e : w64 (UInt64.ofNat n.toNat) = n := by unfold w64; rw [UInt64.toNat_ofNat']; omega
  rw [hc, e]
theorem i64_of_trod {fuel : Nat} {t : TypeId} {cs : List Value} {x : DataW H × List MemPlace} (hu : Tryz.prog.underlying t = some (.int .i64)) (h : DataW.trod enc Tryz.prog W base sp hd fuel t cs = some x) : ∃ y : Int, cs = [.int .i64 y] ∧ -9223372036854775808 ≤ y ∧ y ≤ 9223372036854775807 := by
  obtain ⟨n, hc, _, hw⟩ := DataW.trod_int hu h
  refine ⟨n, hc, ?_⟩
  simp [Lit.wf, IntKind.min, IntKind.max, IntKind.signed, IntKind.bits] at hw; omega
theorem weightsAll_mem {e : TypeId} : ∀ {L : List (DataW H)} {d : DataW H} {n : Nat}, d ∈ L → n ∈ d.weights Tryz.prog e → n ∈ DataW.weightsAll Tryz.prog e L
  | [], _, _, h, _ => by simp at h
  | d0 :: L, d, n, h, hn => by
    simp only [DataW.weightsAll, List.mem_append]
    rcases List.mem_cons.1 h with rfl | h
    · exact Or.inl hn
    · exact Or.inr (weightsAll_mem h hn)
theorem pay_of_trod {fuel : Nat} {cs : List Value} {x : DataW H × List MemPlace} (h : DataW.trod enc Tryz.prog W base sp hd fuel 35 cs = some x) : ∃ d : Vector UInt8 32, cs = arr u8v d := by
  obtain ⟨xs, m, _, _, hlen, hxl, hall⟩ := DataW.trod_array Tryz.underlying35 h
  rw [Tryz.cells35] at hlen
  have hy : ∀ i, ∃ y : UInt8, i < 32 → cs[i]? = some (.int .u8 (w8 y)) := fun i => by
    by_cases hi : i < 32
    · have h1 := hall i hi
      rw [Tryz.cells5, Nat.mul_one, List.getElem?_eq_getElem (by omega)] at h1
      obtain ⟨y, hy⟩ := u8_of_trod Tryz.underlying5 h1
      refine ⟨y, fun _ => ?_⟩
      have h2 : ((cs.drop i).take 1)[0]? = cs[i]? := by simp [List.getElem?_take, List.getElem?_drop]
      rw [← h2, hy]; rfl
    · exact ⟨0, fun h => absurd h hi⟩
  obtain ⟨Y, hY⟩ := Classical.axiomOfChoice hy
  refine ⟨Vector.ofFn fun i : Fin 32 => Y i.val, ?_⟩
  apply List.ext_getElem?
  intro i
  by_cases hi : i < 32
  · rw [hY i hi, arr_at _ _ hi]; simp [u8v]
  · rw [List.getElem?_eq_none (by omega), List.getElem?_eq_none (by rw [length_arr]; omega)]
def GOp.fits (g : GOp) : Prop := -9223372036854775808 ≤ g.kind ∧ g.kind ≤ 9223372036854775807
theorem cut_list (cs : List Value) (o n : Nat) : cs.drop o = (cs.drop o).take n ++ cs.drop (o + n) := by
  rw [← List.drop_drop, List.take_append_drop]
theorem msg_of_trod {fuel : Nat} {cs : List Value} {x : DataW H × List MemPlace} (h : DataW.trod enc Tryz.prog W base sp hd fuel 38 cs = some x) : ∃ m : Message, cs = m.enc := by
  obtain ⟨xs, m, _, hxe, hlen, hxl, hall⟩ := DataW.trod_struct Tryz.underlying38 h
  rw [Tryz.cells38] at hlen
  have hxl8 : xs.length = 10 := hxl
  have h0 : DataW.trod enc Tryz.prog W base sp hd m 36 ((cs.drop 0).take (Tryz.prog.cellsOf 36)) = xs[0]? := hall 0 _ rfl
  have h1 : DataW.trod enc Tryz.prog W base sp hd m 28 ((cs.drop 1).take (Tryz.prog.cellsOf 28)) = xs[1]? := hall 1 _ rfl
  have h2 : DataW.trod enc Tryz.prog W base sp hd m 28 ((cs.drop 2).take (Tryz.prog.cellsOf 28)) = xs[2]? := hall 2 _ rfl
  have h3 : DataW.trod enc Tryz.prog W base sp hd m 32 ((cs.drop 3).take (Tryz.prog.cellsOf 32)) = xs[3]? := hall 3 _ rfl
  have h4 : DataW.trod enc Tryz.prog W base sp hd m 32 ((cs.drop 4).take (Tryz.prog.cellsOf 32)) = xs[4]? := hall 4 _ rfl
  have h5 : DataW.trod enc Tryz.prog W base sp hd m 33 ((cs.drop 5).take (Tryz.prog.cellsOf 33)) = xs[5]? := hall 5 _ rfl
  have h6 : DataW.trod enc Tryz.prog W base sp hd m 34 ((cs.drop 6).take (Tryz.prog.cellsOf 34)) = xs[6]? := hall 6 _ rfl
  have h7 : DataW.trod enc Tryz.prog W base sp hd m 33 ((cs.drop 7).take (Tryz.prog.cellsOf 33)) = xs[7]? := hall 7 _ rfl
  have h8 : DataW.trod enc Tryz.prog W base sp hd m 5 ((cs.drop 8).take (Tryz.prog.cellsOf 5)) = xs[8]? := hall 8 _ rfl
  have h9 : DataW.trod enc Tryz.prog W base sp hd m 35 ((cs.drop 9).take (Tryz.prog.cellsOf 35)) = xs[9]? := hall 9 _ rfl
  rw [List.getElem?_eq_getElem (by omega)] at h0 h1 h2 h3 h4 h5 h6 h7 h8 h9
  simp only [Tryz.cells28, Tryz.cells32, Tryz.cells33, Tryz.cells34, Tryz.cells35, Tryz.cells36, Tryz.cells5] at h0 h1 h2 h3 h4 h5 h6 h7 h8 h9
  obtain ⟨y0, e0⟩ := u8_of_trod Tryz.underlying36 h0
  obtain ⟨y1, e1⟩ := u8_of_trod Tryz.underlying28 h1
  obtain ⟨y2, e2⟩ := u8_of_trod Tryz.underlying28 h2
  obtain ⟨y3, e3⟩ := u8_of_trod Tryz.underlying32 h3
  obtain ⟨y4, e4⟩ := u8_of_trod Tryz.underlying32 h4
  obtain ⟨y5, e5⟩ := u64_of_trod Tryz.underlying33 h5
  obtain ⟨y6, e6⟩ := u8_of_trod Tryz.underlying34 h6
  obtain ⟨y7, e7⟩ := u64_of_trod Tryz.underlying33 h7
  obtain ⟨y8, e8⟩ := u8_of_trod Tryz.underlying5 h8
  obtain ⟨y9, e9⟩ := pay_of_trod h9
  refine ⟨⟨y0, y1, y2, y3, y4, y5, y6, y7, y8, y9⟩, ?_⟩
  have hdl : cs.drop 9 = (cs.drop 9).take 32 := (List.take_of_length_le (by simp; omega)).symm
  have hd0 : cs = cs.drop 0 := rfl
  rw [hd0, cut_list cs 0 1, show (0 + 1 : Nat) = 1 from rfl, cut_list cs 1 1, show (1 + 1 : Nat) = 2 from rfl, cut_list cs 2 1, show (2 + 1 : Nat) = 3 from rfl, cut_list cs 3 1, show (3 + 1 : Nat) = 4 from rfl, cut_list cs 4 1, show (4 + 1 : Nat) = 5 from rfl, cut_list cs 5 1, show (5 + 1 : Nat) = 6 from rfl, cut_list cs 6 1, show (6 + 1 : Nat) = 7 from rfl, cut_list cs 7 1, show (7 + 1 : Nat) = 8 from rfl, cut_list cs 8 1, show (8 + 1 : Nat) = 9 from rfl, hdl]
  rw [e0, e1, e2, e3, e4, e5, e6, e7, e8, e9]
  simp [Message.enc]
theorem tx_of_trod {fuel : Nat} {cs : List Value} {x : DataW H × List MemPlace} (h : DataW.trod enc Tryz.prog W base sp hd fuel 40 cs = some x) : ∃ m : Tx, cs = m.enc := by
  obtain ⟨xs, m, _, hxe, hlen, hxl, hall⟩ := DataW.trod_struct Tryz.underlying40 h
  rw [Tryz.cells40] at hlen
  have hxl8 : xs.length = 12 := hxl
  have h0 : DataW.trod enc Tryz.prog W base sp hd m 31 ((cs.drop 0).take (Tryz.prog.cellsOf 31)) = xs[0]? := hall 0 _ rfl
  have h1 : DataW.trod enc Tryz.prog W base sp hd m 28 ((cs.drop 1).take (Tryz.prog.cellsOf 28)) = xs[1]? := hall 1 _ rfl
  have h2 : DataW.trod enc Tryz.prog W base sp hd m 32 ((cs.drop 2).take (Tryz.prog.cellsOf 32)) = xs[2]? := hall 2 _ rfl
  have h3 : DataW.trod enc Tryz.prog W base sp hd m 33 ((cs.drop 3).take (Tryz.prog.cellsOf 33)) = xs[3]? := hall 3 _ rfl
  have h4 : DataW.trod enc Tryz.prog W base sp hd m 33 ((cs.drop 4).take (Tryz.prog.cellsOf 33)) = xs[4]? := hall 4 _ rfl
  have h5 : DataW.trod enc Tryz.prog W base sp hd m 32 ((cs.drop 5).take (Tryz.prog.cellsOf 32)) = xs[5]? := hall 5 _ rfl
  have h6 : DataW.trod enc Tryz.prog W base sp hd m 28 ((cs.drop 6).take (Tryz.prog.cellsOf 28)) = xs[6]? := hall 6 _ rfl
  have h7 : DataW.trod enc Tryz.prog W base sp hd m 34 ((cs.drop 7).take (Tryz.prog.cellsOf 34)) = xs[7]? := hall 7 _ rfl
  have h8 : DataW.trod enc Tryz.prog W base sp hd m 33 ((cs.drop 8).take (Tryz.prog.cellsOf 33)) = xs[8]? := hall 8 _ rfl
  have h9 : DataW.trod enc Tryz.prog W base sp hd m 5 ((cs.drop 9).take (Tryz.prog.cellsOf 5)) = xs[9]? := hall 9 _ rfl
  have h10 : DataW.trod enc Tryz.prog W base sp hd m 35 ((cs.drop 10).take (Tryz.prog.cellsOf 35)) = xs[10]? := hall 10 _ rfl
  have h11 : DataW.trod enc Tryz.prog W base sp hd m 38 ((cs.drop 42).take (Tryz.prog.cellsOf 38)) = xs[11]? := hall 11 _ rfl
  rw [List.getElem?_eq_getElem (by omega)] at h0 h1 h2 h3 h4 h5 h6 h7 h8 h9 h10 h11
  simp only [Tryz.cells28, Tryz.cells31, Tryz.cells32, Tryz.cells33, Tryz.cells34, Tryz.cells35, Tryz.cells38, Tryz.cells5] at h0 h1 h2 h3 h4 h5 h6 h7 h8 h9 h10 h11
  obtain ⟨y0, e0⟩ := u8_of_trod Tryz.underlying31 h0
  obtain ⟨y1, e1⟩ := u8_of_trod Tryz.underlying28 h1
  obtain ⟨y2, e2⟩ := u8_of_trod Tryz.underlying32 h2
  obtain ⟨y3, e3⟩ := u64_of_trod Tryz.underlying33 h3
  obtain ⟨y4, e4⟩ := u64_of_trod Tryz.underlying33 h4
  obtain ⟨y5, e5⟩ := u8_of_trod Tryz.underlying32 h5
  obtain ⟨y6, e6⟩ := u8_of_trod Tryz.underlying28 h6
  obtain ⟨y7, e7⟩ := u8_of_trod Tryz.underlying34 h7
  obtain ⟨y8, e8⟩ := u64_of_trod Tryz.underlying33 h8
  obtain ⟨y9, e9⟩ := u8_of_trod Tryz.underlying5 h9
  obtain ⟨y10, e10⟩ := pay_of_trod h10
  obtain ⟨y11, e11⟩ := msg_of_trod h11
  refine ⟨⟨y0, y1, y2, y3, y4, y5, y6, y7, y8, y9, y10, y11⟩, ?_⟩
  have hdl : cs.drop 42 = (cs.drop 42).take 41 := (List.take_of_length_le (by simp; omega)).symm
  have hd0 : cs = cs.drop 0 := rfl
  rw [hd0, cut_list cs 0 1, show (0 + 1 : Nat) = 1 from rfl, cut_list cs 1 1, show (1 + 1 : Nat) = 2 from rfl, cut_list cs 2 1, show (2 + 1 : Nat) = 3 from rfl, cut_list cs 3 1, show (3 + 1 : Nat) = 4 from rfl, cut_list cs 4 1, show (4 + 1 : Nat) = 5 from rfl, cut_list cs 5 1, show (5 + 1 : Nat) = 6 from rfl, cut_list cs 6 1, show (6 + 1 : Nat) = 7 from rfl, cut_list cs 7 1, show (7 + 1 : Nat) = 8 from rfl, cut_list cs 8 1, show (8 + 1 : Nat) = 9 from rfl, cut_list cs 9 1, show (9 + 1 : Nat) = 10 from rfl, cut_list cs 10 32, show (10 + 32 : Nat) = 42 from rfl, hdl]
  rw [e0, e1, e2, e3, e4, e5, e6, e7, e8, e9, e10, e11]
  simp [Tx.enc]
theorem Tryz.bytes40 : Tryz.prog.bytesOf 40 = 152 := by kernel_rfl
theorem txs_of_trod {fuel : Nat} {cs : List Value} {x : DataW H × List MemPlace} {R : Nat} (h : DataW.trod enc Tryz.prog W base sp hd fuel 41 cs = some x) (hR : ∀ n ∈ x.1.weights Tryz.prog 41, n ≤ R) : ∃ (s : Sl) (L : List Tx), cs = [Sl.val s] ∧ TxsIn W s L ∧ s.len ≤ R := by
  rcases open_slice Tryz.underlying41 h with ⟨rfl, _⟩ | ⟨a, len, cap, m, n, D, Pl, rfl, _, hl, hm, hmm, hxe, hV⟩
  · exact ⟨⟨none, 0, 0⟩, [], rfl, ⟨rfl, Nat.le_refl _, Nat.zero_le _, fun h => absurd rfl h⟩, Nat.zero_le _⟩
  have hle : len ≤ R := by
    have h1 := hR ((((List.range len).map D).length + ((List.range (m - len)).map fun j => D (len + j)).length) * Tryz.prog.bytesOf 40) (by rw [hxe]; simp [DataW.weights, Tryz.underlying41])
    rw [Tryz.bytes40] at h1
    simp at h1
    omega
  have hlm : len ≤ m := by rw [hmm]; split <;> omega
  rw [Tryz.cells40] at hV
  have hy : ∀ i, ∃ y : Tx, i < len → W.cells? base (a.add (i * 83)) 83 = some y.enc := fun i => by
    by_cases hi : i < len
    · obtain ⟨cs', h1, h2⟩ := hV i (by omega)
      obtain ⟨g, rfl⟩ := tx_of_trod h2
      exact ⟨g, fun _ => h1⟩
    · exact ⟨Tx.zero, fun h => absurd h hi⟩
  obtain ⟨Y, hY⟩ := Classical.axiomOfChoice hy
  refine ⟨⟨some a, len, cap⟩, (List.range len).map Y, rfl, ⟨by simp, hl, hm, fun h0 => ?_⟩, hle⟩
  simp only at h0 ⊢
  obtain ⟨b, o, spot⟩ := a
  have hcell : ∀ i, i < len → ∀ j, j < 83 → W.cell? (Addr.add ⟨b, o, spot⟩ (i * 83 + j)) = (Y i).enc[j]? := fun i hi j hj => by
    have := (World.cells?_some (hY i hi)).2.2 j hj
    rw [add_add] at this
    exact this
  have hspot : spot = none := by
    have h1 := hcell 0 (by omega) 0 (by omega)
    rw [List.getElem?_eq_getElem (by rw [Tx.length_enc]; omega)] at h1
    simpa [Addr.add] using World.cell?_spot h1
  subst hspot
  have hc2 : ∀ i, i < len → ∀ j, j < 83 → W.cell? ⟨b, o + (i * 83 + j), none⟩ = (Y i).enc[j]? := fun i hi j hj => by
    have := hcell i hi j hj
    rw [add_addr] at this
    exact this
  have h1 := hc2 0 (by omega) 0 (by omega)
  rw [List.getElem?_eq_getElem (by rw [Tx.length_enc]; omega)] at h1
  obtain ⟨C, hC, _⟩ := cell_in h1
  have hC2 : ∀ i, i < len → ∀ j, j < 83 → C[o + (i * 83 + j)]? = (Y i).enc[j]? := fun i hi j hj => by rw [← cell_blk hC]; exact hc2 i hi j hj
  refine ⟨b, o, C, rfl, hC, ?_, fun i x hx => ?_⟩
  · have h3 := hC2 (len - 1) (by omega) 82 (by omega)
    have h4 : (Y (len - 1)).enc[82]? = some ((Y (len - 1)).enc[82]'(by rw [Tx.length_enc]; omega)) := List.getElem?_eq_getElem _
    rw [h4] at h3
    have := (List.getElem?_eq_some_iff.1 h3).1
    omega
  · have hi : i < len := by have := (List.getElem?_eq_some_iff.1 hx).1; simpa using this
    have hxe' : x = Y i := by
      rw [List.getElem?_map, List.getElem?_range hi] at hx
      exact (Option.some.inj hx).symm
    rw [hxe']
    apply List.ext_getElem?
    intro j
    unfold seg
    rw [List.getElem?_take]
    by_cases hj : j < 83
    · rw [if_pos hj, List.getElem?_drop, Nat.add_assoc, hC2 i hi j hj]
    · rw [if_neg hj, List.getElem?_eq_none (by rw [Tx.length_enc]; omega)]
theorem op_of_trod {fuel : Nat} {cs : List Value} {x : DataW H × List MemPlace} {R : Nat} (h : DataW.trod enc Tryz.prog W base sp hd fuel 43 cs = some x) (hR : ∀ n ∈ x.1.weights Tryz.prog 43, n ≤ R) : ∃ (g : GOp) (L : List Tx), cs = g.enc ∧ g.fits ∧ TxsIn W g.txs L ∧ g.txs.len ≤ R := by
  obtain ⟨xs, m, _, hxe, hlen, hxl, hall⟩ := DataW.trod_struct Tryz.underlying43 h
  rw [Tryz.cells43] at hlen
  have hxl8 : xs.length = 8 := hxl
  have h0 : DataW.trod enc Tryz.prog W base sp hd m 30 ((cs.drop 0).take (Tryz.prog.cellsOf 30)) = xs[0]? := hall 0 _ rfl
  have h1 : DataW.trod enc Tryz.prog W base sp hd m 40 ((cs.drop 1).take (Tryz.prog.cellsOf 40)) = xs[1]? := hall 1 _ rfl
  have h2 : DataW.trod enc Tryz.prog W base sp hd m 41 ((cs.drop 84).take (Tryz.prog.cellsOf 41)) = xs[2]? := hall 2 _ rfl
  have h3 : DataW.trod enc Tryz.prog W base sp hd m 33 ((cs.drop 85).take (Tryz.prog.cellsOf 33)) = xs[3]? := hall 3 _ rfl
  have h4 : DataW.trod enc Tryz.prog W base sp hd m 32 ((cs.drop 86).take (Tryz.prog.cellsOf 32)) = xs[4]? := hall 4 _ rfl
  have h5 : DataW.trod enc Tryz.prog W base sp hd m 34 ((cs.drop 87).take (Tryz.prog.cellsOf 34)) = xs[5]? := hall 5 _ rfl
  have h6 : DataW.trod enc Tryz.prog W base sp hd m 28 ((cs.drop 88).take (Tryz.prog.cellsOf 28)) = xs[6]? := hall 6 _ rfl
  have h7 : DataW.trod enc Tryz.prog W base sp hd m 33 ((cs.drop 89).take (Tryz.prog.cellsOf 33)) = xs[7]? := hall 7 _ rfl
  rw [List.getElem?_eq_getElem (by omega)] at h0 h1 h2 h3 h4 h5 h6 h7
  simp only [Tryz.cells28, Tryz.cells41, Tryz.cells30, Tryz.cells32, Tryz.cells33, Tryz.cells34, Tryz.cells40] at h0 h1 h2 h3 h4 h5 h6 h7
  obtain ⟨y0, e0, r0⟩ := i64_of_trod Tryz.underlying30 h0
  obtain ⟨y1, e1⟩ := tx_of_trod h1
  obtain ⟨y2, ys, e2, r2⟩ := txs_of_trod (R := R) h2 (fun n hn => hR n (by
    rw [hxe]
    simp only [DataW.weights, Tryz.underlying43]
    exact DataW.weights_mem_each (j := 2) (t := 41) (d := (xs[2]'(by omega)).1) rfl (by rw [List.getElem?_map, List.getElem?_eq_getElem (by omega)]; rfl) n hn))
  obtain ⟨y3, e3⟩ := u64_of_trod Tryz.underlying33 h3
  obtain ⟨y4, e4⟩ := u8_of_trod Tryz.underlying32 h4
  obtain ⟨y5, e5⟩ := u8_of_trod Tryz.underlying34 h5
  obtain ⟨y6, e6⟩ := u8_of_trod Tryz.underlying28 h6
  obtain ⟨y7, e7⟩ := u64_of_trod Tryz.underlying33 h7
  refine ⟨⟨y0, y1, y2, y3, y4, y5, y6, y7⟩, ys, ?_, r0, r2⟩
  have hdl : cs.drop 89 = (cs.drop 89).take 1 := (List.take_of_length_le (by simp; omega)).symm
  have hd0 : cs = cs.drop 0 := rfl
  rw [hd0, cut_list cs 0 1, show (0 + 1 : Nat) = 1 from rfl, cut_list cs 1 83, show (1 + 83 : Nat) = 84 from rfl, cut_list cs 84 1, show (84 + 1 : Nat) = 85 from rfl, cut_list cs 85 1, show (85 + 1 : Nat) = 86 from rfl, cut_list cs 86 1, show (86 + 1 : Nat) = 87 from rfl, cut_list cs 87 1, show (87 + 1 : Nat) = 88 from rfl, cut_list cs 88 1, show (88 + 1 : Nat) = 89 from rfl, hdl]
  rw [e0, e1, e2, e3, e4, e5, e6, e7]
  simp [GOp.enc]
def ScriptAt (W : World) (a : Option Addr) (len cap : Nat) (g : Nat → GOp) (dt : Nat → List Tx) : Prop :=
  len ≤ cap ∧ cap ≤ maxLen ∧ (∀ i, i < len → (g i).fits ∧ TxsIn W (g i).txs (dt i) ∧ (g i).txs.len ≤ 140737488351232) ∧
  (len ≠ 0 → ∃ b o C, a = some ⟨b, o, none⟩ ∧ blk W b = some C ∧ o + len * 90 ≤ C.length ∧ ∀ i, i < len → seg C (o + i * 90) 90 = (g i).enc)
theorem script_of_trod {fuel : Nat} {cs : List Value} {x : DataW H × List MemPlace} (h : DataW.trod enc Tryz.prog W base sp hd fuel 22 cs = some x) (hR : ∀ n ∈ x.1.weights Tryz.prog 22, n ≤ 140737488351232) : ∃ a len cap g dt, cs = [.slice a len cap] ∧ ScriptAt W a len cap g dt := by
  rcases open_slice Tryz.underlying22 h with ⟨rfl, _⟩ | ⟨a, len, cap, m, n, D, Pl, rfl, _, hl, hm, hmm, hxe, hV⟩
  · exact ⟨none, 0, 0, fun _ => GOp.zero, fun _ => [], rfl, Nat.le_refl _, Nat.zero_le _, fun i h => absurd h (Nat.not_lt_zero _), fun h => absurd rfl h⟩
  have hlm : len ≤ m := by rw [hmm]; split <;> omega
  rw [Tryz.cells43] at hV
  have hy : ∀ i, ∃ y : GOp × List Tx, i < len → y.1.fits ∧ (TxsIn W y.1.txs y.2 ∧ y.1.txs.len ≤ 140737488351232) ∧ W.cells? base (a.add (i * 90)) 90 = some y.1.enc := fun i => by
    by_cases hi : i < len
    · obtain ⟨cs', h1, h2⟩ := hV i (by omega)
      obtain ⟨g, xs, rfl, hf, hb⟩ := op_of_trod (R := 140737488351232) h2 (fun n hn => hR n (by
        rw [hxe]
        simp only [DataW.weights, Tryz.underlying22, List.mem_cons, List.mem_append]
        exact Or.inr (Or.inl (weightsAll_mem (List.mem_map.2 ⟨i, List.mem_range.2 hi, rfl⟩) hn))))
      exact ⟨(g, xs), fun _ => ⟨hf, hb, h1⟩⟩
    · exact ⟨(GOp.zero, []), fun h => absurd h hi⟩
  obtain ⟨Y, hY⟩ := Classical.axiomOfChoice hy
  refine ⟨some a, len, cap, fun i => (Y i).1, fun i => (Y i).2, rfl, hl, hm, fun i hi => ⟨(hY i hi).1, (hY i hi).2.1⟩, fun h0 => ?_⟩
  obtain ⟨b, o, spot⟩ := a
  have hcell : ∀ i, i < len → ∀ j, j < 90 → W.cell? (Addr.add ⟨b, o, spot⟩ (i * 90 + j)) = (Y i).1.enc[j]? := fun i hi j hj => by
    have := (World.cells?_some (hY i hi).2.2).2.2 j hj
    rw [add_add] at this
    exact this
  have hspot : spot = none := by
    have h1 := hcell 0 (by omega) 0 (by omega)
    rw [List.getElem?_eq_getElem (by rw [GOp.length_enc]; omega)] at h1
    simpa [Addr.add] using World.cell?_spot h1
  subst hspot
  have hc2 : ∀ i, i < len → ∀ j, j < 90 → W.cell? ⟨b, o + (i * 90 + j), none⟩ = (Y i).1.enc[j]? := fun i hi j hj => by
    have := hcell i hi j hj
    rw [add_addr] at this
    exact this
  have h1 := hc2 0 (by omega) 0 (by omega)
  rw [List.getElem?_eq_getElem (by rw [GOp.length_enc]; omega)] at h1
  obtain ⟨C, hC, _⟩ := cell_in h1
  have hC2 : ∀ i, i < len → ∀ j, j < 90 → C[o + (i * 90 + j)]? = (Y i).1.enc[j]? := fun i hi j hj => by rw [← cell_blk hC]; exact hc2 i hi j hj
  refine ⟨b, o, C, rfl, hC, ?_, fun i hi => ?_⟩
  · have h3 := hC2 (len - 1) (by omega) 89 (by omega)
    have h4 : (Y (len - 1)).1.enc[89]? = some ((Y (len - 1)).1.enc[89]'(by rw [GOp.length_enc]; omega)) := List.getElem?_eq_getElem _
    rw [h4] at h3
    have := (List.getElem?_eq_some_iff.1 h3).1
    omega
  · apply List.ext_getElem?
    intro j
    unfold seg
    rw [List.getElem?_take]
    by_cases hj : j < 90
    · rw [if_pos hj, List.getElem?_drop, Nat.add_assoc, hC2 i hi j hj]
    · rw [if_neg hj, List.getElem?_eq_none (by rw [GOp.length_enc]; omega)]
end
end Go.Proofs.Qxb6500786aGreat
