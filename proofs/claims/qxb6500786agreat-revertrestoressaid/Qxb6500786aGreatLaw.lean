/- The script's reading carried to a grown world. -/
import Derived.Test.Qxb6500786aGreatOpen
import Derived.DataShut
set_option linter.unusedSimpArgs false
set_option linter.unusedVariables false
namespace Go.Proofs.Qxb6500786aGreat
open Go.ChangeShapes Go.WideShapes Go.ChangeAt Go.RowKit Go.Blk Go.Deep
section
variable {H : Type} {enc : TypeId × Value → H} {W : World} {sp : Nat → Bool} {hd : Bool} {base : Nat}
/-- A reading with every spare is the same with the spares of its own blocks. -/
def RS (enc : TypeId × Value → H) (W : World) (base : Nat) (hd : Bool) (sp : Nat → Bool) (t : TypeId) : Prop :=
  ∀ n cs x, DataW.trod enc Tryz.prog W base (fun _ => true) hd n t cs = some x → (∀ p ∈ x.2, sp p.block = true) → DataW.trod enc Tryz.prog W base sp hd n t cs = some x
theorem rs_int {t : TypeId} {k : IntKind} (hu : Tryz.prog.underlying t = some (.int k)) : RS enc W base hd sp t := by
  intro n cs x h _
  obtain ⟨m, rfl, rfl, hw⟩ := DataW.trod_int hu h
  cases n with
  | zero => simp [DataW.trod] at h
  | succ n => exact trod_int_mk n hu hw
theorem rs_array {t e : TypeId} {m : Nat} (hu : Tryz.prog.underlying t = some (.array m e)) (he : RS enc W base hd sp e) : RS enc W base hd sp t := by
  intro n cs x h hp
  obtain ⟨xs, n', rfl, rfl, hlen, hxl, hall⟩ := DataW.trod_array hu h
  rw [DataW.trod_step]
  unfold DataW.trodStep
  rw [hu]
  simp only [hlen, if_true]
  rw [mapM_some_of_get _ xs (by simp [hxl]) (fun i y hy => ?_)]
  · rfl
  · have hi : i < m := by
      have := (List.getElem?_eq_some_iff.1 hy).1
      simpa using this
    have hy' : y = i := by
      rw [List.getElem?_range hi] at hy
      exact (Option.some.inj hy).symm
    subst hy'
    have h1 := hall y hi
    have h2 : xs[y]? = some (xs[y]'(by omega)) := List.getElem?_eq_getElem _
    rw [h2] at h1 ⊢
    exact he _ _ _ h1 (fun p hpp => hp p (List.mem_flatMap.2 ⟨_, List.getElem_mem _, hpp⟩))
theorem rs_struct {t : TypeId} {fs : Array Field} (hu : Tryz.prog.underlying t = some (.struct fs)) (he : ∀ f ∈ fs, RS enc W base hd sp f.type) : RS enc W base hd sp t := by
  intro n cs x h hp
  obtain ⟨xs, n', rfl, rfl, hlen, hxl, hall⟩ := DataW.trod_struct hu h
  rw [DataW.trod_step]
  unfold DataW.trodStep
  rw [hu]
  simp only [hlen, if_true]
  rw [mapM_some_of_get _ xs (by simp [hxl]) (fun i f hf => ?_)]
  · rfl
  · have hi : i < fs.size := by
      have := (List.getElem?_eq_some_iff.1 hf).1
      simpa using this
    have hf' : fs[i]? = some f := by simpa using hf
    have h1 := hall i f hf'
    have h2 : xs[i]? = some (xs[i]'(by omega)) := List.getElem?_eq_getElem _
    rw [h2] at h1 ⊢
    exact he f (Array.mem_of_getElem? hf') _ _ _ h1 (fun p hpp => hp p (List.mem_flatMap.2 ⟨_, List.getElem_mem _, hpp⟩))
theorem rs_slice {t e : TypeId} (hu : Tryz.prog.underlying t = some (.slice e)) (hc : 0 < Tryz.prog.cellsOf e) (he : RS enc W base hd sp e) : RS enc W base hd sp t := by
  intro n cs x h hp
  rcases DataW.trod_slice hu h with ⟨rfl, rfl⟩ | ⟨a, len, cap, elems, rest, n', rfl, rfl, rfl, hb, hl, hm, hlen, hel, hsp, hns⟩
  · cases n with
    | zero => simp [DataW.trod] at h
    | succ n =>
      rw [DataW.trod_step] at h ⊢
      unfold DataW.trodStep at h ⊢
      rw [hu] at h ⊢
      exact h
  · rw [DataW.trod_step]
    unfold DataW.trodStep
    rw [hu]
    simp only []
    rw [if_pos ⟨hb, hl, hm⟩]
    obtain ⟨hrl, hre⟩ := hsp rfl
    have one : ∀ j y, y ∈ elems ++ rest → (W.cells? base (a.add (j * Tryz.prog.cellsOf e)) (Tryz.prog.cellsOf e)).bind (DataW.trod enc Tryz.prog W base (fun _ => true) hd n' e) = some y →
        (W.cells? base (a.add (j * Tryz.prog.cellsOf e)) (Tryz.prog.cellsOf e)).bind (DataW.trod enc Tryz.prog W base sp hd n' e) = some y := fun j y hy h1 => by
      obtain ⟨cs', h2, h3⟩ := Option.bind_eq_some_iff.1 h1
      rw [h2]
      exact he _ _ _ h3 (fun p hpp => hp p (List.mem_append_right _ (List.mem_flatMap.2 ⟨_, hy, hpp⟩)))
    rw [mapM_some_of_get _ elems (by simp [hlen]) (fun i y hy => ?_)]
    · by_cases hs : sp a.block = true
      · simp only [hs, if_true, Option.bind_some]
        rw [mapM_some_of_get _ rest (by simp [hrl]) (fun i y hy => ?_)]
        · rfl
        · have hi : i < cap - len := by
            have := (List.getElem?_eq_some_iff.1 hy).1
            simpa using this
          have hy' : y = i := by
            rw [List.getElem?_range hi] at hy
            exact (Option.some.inj hy).symm
          subst hy'
          have h1 := hre y hi
          have h2 : rest[y]? = some (rest[y]'(by omega)) := List.getElem?_eq_getElem _
          rw [h2] at h1 ⊢
          exact one _ _ (List.mem_append_right _ (List.getElem_mem _)) h1
      · have h0 : elems.length + rest.length = 0 := by
          rcases Nat.eq_zero_or_pos (elems.length + rest.length) with h0 | h0
          · exact h0
          · exfalso
            refine hs (hp (.cell a.block (a.off + 0)) (List.mem_append_left _ ?_))
            simp only [MemPlace.row, List.mem_map, List.mem_range]
            exact ⟨0, Nat.mul_pos h0 hc, rfl⟩
        have hr0 : rest = [] := List.eq_nil_of_length_eq_zero (by omega)
        subst hr0
        simp [hs]
    · have hi : i < len := by
        have := (List.getElem?_eq_some_iff.1 hy).1
        simpa using this
      have hy' : y = i := by
        rw [List.getElem?_range hi] at hy
        exact (Option.some.inj hy).symm
      subst hy'
      have h1 := hel y hi
      have h2 : elems[y]? = some (elems[y]'(by omega)) := List.getElem?_eq_getElem _
      rw [h2] at h1 ⊢
      exact one _ _ (List.mem_append_left _ (List.getElem_mem _)) h1
theorem rs_msg : RS enc W base hd sp 38 := by
  refine rs_struct Tryz.underlying38 ?_
  intro f hf
  simp only [List.mem_toArray, List.mem_cons, List.not_mem_nil, or_false] at hf
  rcases hf with rfl | rfl | rfl | rfl | rfl | rfl | rfl | rfl | rfl | rfl
  · exact rs_int Tryz.underlying36
  · exact rs_int Tryz.underlying28
  · exact rs_int Tryz.underlying28
  · exact rs_int Tryz.underlying32
  · exact rs_int Tryz.underlying32
  · exact rs_int Tryz.underlying33
  · exact rs_int Tryz.underlying34
  · exact rs_int Tryz.underlying33
  · exact rs_int Tryz.underlying5
  · exact rs_array Tryz.underlying35 (rs_int Tryz.underlying5)
theorem rs_tx : RS enc W base hd sp 40 := by
  refine rs_struct Tryz.underlying40 ?_
  intro f hf
  simp only [List.mem_toArray, List.mem_cons, List.not_mem_nil, or_false] at hf
  rcases hf with rfl | rfl | rfl | rfl | rfl | rfl | rfl | rfl | rfl | rfl | rfl | rfl
  · exact rs_int Tryz.underlying31
  · exact rs_int Tryz.underlying28
  · exact rs_int Tryz.underlying32
  · exact rs_int Tryz.underlying33
  · exact rs_int Tryz.underlying33
  · exact rs_int Tryz.underlying32
  · exact rs_int Tryz.underlying28
  · exact rs_int Tryz.underlying34
  · exact rs_int Tryz.underlying33
  · exact rs_int Tryz.underlying5
  · exact rs_array Tryz.underlying35 (rs_int Tryz.underlying5)
  · exact rs_msg
theorem rs_script : RS enc W base hd sp 22 := by
  refine rs_slice Tryz.underlying22 (by rw [Tryz.cells43]; omega) (rs_struct Tryz.underlying43 ?_)
  intro f hf
  simp only [List.mem_toArray, List.mem_cons, List.not_mem_nil, or_false] at hf
  rcases hf with rfl | rfl | rfl | rfl | rfl | rfl | rfl | rfl
  · exact rs_int Tryz.underlying30
  · exact rs_tx
  · exact rs_slice Tryz.underlying41 (by rw [Tryz.cells40]; omega) rs_tx
  · exact rs_int Tryz.underlying33
  · exact rs_int Tryz.underlying32
  · exact rs_int Tryz.underlying34
  · exact rs_int Tryz.underlying28
  · exact rs_int Tryz.underlying33
theorem same_extends {W W' : World} (he : W.Extends W') {p : MemPlace} (hb : p.block < W.heap.size) : W.sameAt W' p := by
  cases p with
  | cell b o => exact he.cell ⟨b, o, none⟩ hb
  | map b => exact he.block b hb
theorem script_carry {W' : World} {v : Value} {d : DataW H} {ps : List MemPlace} (h : DataW.Trod enc Tryz.prog W base (fun _ => true) hd 22 v d ps) (hsp : ∀ p ∈ ps, sp p.block = true) (he : W.Extends W') : DataW.Trod enc Tryz.prog W' base sp hd 22 v d ps := by
  obtain ⟨n, hn⟩ := h
  have h1 := rs_script (sp := sp) n _ _ hn hsp
  exact ⟨n, DataW.trod_carry n _ _ _ h1 (fun p hp => same_extends he (DataW.trod_lt n _ _ _ hn p hp))⟩
end
end Go.Proofs.Qxb6500786aGreat
