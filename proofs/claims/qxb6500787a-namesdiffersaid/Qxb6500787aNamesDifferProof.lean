/- NamesDiffer. -/
import Derived.Test.Qxb6500787aRows
import Derived.WalkKit
import Derived.ProofKit
import Derived.OpenShut
import Derived.ShutString
import Derived.Test.Qxb6500787aNames
namespace Go.Proofs.Qxb6500787a.namesDiffer
open Go.ChangeShapes Go.WideShapes Go.ChangeAt Go.RowKit
open Go.ChangeMaps (open_string shut_string)
set_option linter.unusedVariables false      -- a walk need not use every 'w<i>' (that an integer argument fits its kind)

theorem own : ownKnob Try.prog.godebug = none := by kernel_rfl

def fine_codeName (k : Nat) : Bool := ((codeName k).size == 0) == false && (List.range 44).all fun j => (k < j) → ((codeName k).toList == (codeName j).toList) == false
theorem all_codeName : (List.range 43).all fine_codeName = true := by decide +kernel
theorem codeName_at {k : Nat} (h : k < 43) : (codeName k).size ≠ 0 ∧ ∀ j : Nat, k < j → j ≤ 43 → ((codeName k).toList == (codeName j).toList) = false := by
  have := List.all_eq_true.1 all_codeName k (List.mem_range.2 h)
  unfold fine_codeName at this
  simp only [Bool.and_eq_true, beq_iff_eq] at this
  obtain ⟨a, d⟩ := this
  refine ⟨by simpa using a, fun j hj hj2 => ?_⟩
  have := List.all_eq_true.1 d j (List.mem_range.2 (by omega))
  simp only [decide_eq_true_eq] at this
  simpa using this hj
def fine_kindName (k : Nat) : Bool := ((kindName k).size == 0) == false && (List.range 9).all fun j => (k < j) → ((kindName k).toList == (kindName j).toList) == false
theorem all_kindName : (List.range 8).all fine_kindName = true := by decide +kernel
theorem kindName_at {k : Nat} (h : k < 8) : (kindName k).size ≠ 0 ∧ ∀ j : Nat, k < j → j ≤ 8 → ((kindName k).toList == (kindName j).toList) = false := by
  have := List.all_eq_true.1 all_kindName k (List.mem_range.2 h)
  unfold fine_kindName at this
  simp only [Bool.and_eq_true, beq_iff_eq] at this
  obtain ⟨a, d⟩ := this
  refine ⟨by simpa using a, fun j hj hj2 => ?_⟩
  have := List.all_eq_true.1 d j (List.mem_range.2 (by omega))
  simp only [decide_eq_true_eq] at this
  simpa using this hj

theorem grown_trans {a b c : World} (h : Grown a b) (h' : Grown b c) : Grown a c :=
  ⟨World.keptBut_trans h.1 h'.1, fun x => (h'.2.1 x).trans (h.2.1 x), Nat.le_trans h.2.2 h'.2.2⟩
set_option maxHeartbeats 1000000 in
theorem walk (w : World) :
    Calls Try.prog 10 #[] w fun e w' => e = .returned (.bool true) ∧ Grown w w' := by
  go_enter Try.func10, Try.ntmps10
  go_wp2_with fail
  go_loopw [1, 2] (fun i _ wr => ∃ k : Nat, k ≤ 43 ∧ i = .int .i64 k ∧ Grown w wr) (fun i _ _ => 43 - (intOf i).toNat)
  case atStart => exact ⟨0, by omega, rfl, Grown.refl _⟩
  case round =>
    obtain ⟨k, hk, rfl, hg⟩ := hrel
    by_cases hlt : k < 43
    · obtain ⟨h1, h4⟩ := codeName_at hlt
      have hd : decide ((k : Int) < 43) = true := decide_eq_true (by omega)
      have H4 : Hid (∀ j : Nat, k < j → j ≤ 43 → ((codeName k).toList == (codeName j).toList) = false) := h4
      clear h4
      have h1' : (((codeName k).size : Int) == 0) = false := beq_eq_false_iff_ne.2 (by omega)
      clear h1
      have HG : Hid (Grown w wr) := hg
      clear hg
      go_wp2_with fail
      go_loopw [2] (fun i wr' => ∃ j : Nat, k < j ∧ j ≤ 44 ∧ i = .int .i64 j ∧ Grown w wr') (fun i _ => 44 - (intOf i).toNat)
      case atStart => exact ⟨k + 1, by omega, by omega, by go_num, HG.out⟩
      case round =>
        clear HG
        rename_i wr0
        obtain ⟨j, hj, hj2, rfl, hg⟩ := hrel
        have HG : Hid (Grown w wr) := hg
        clear hg
        by_cases hlj : j ≤ 43
        · have h5 := H4.out j hj hlj
          go_wp2_with fail
          refine (f33_any _ (by omega) (by omega) _).mono ?_
          rintro e w1 ⟨rfl, hg1⟩
          have HG1 : Hid (Grown w w1) := grown_trans HG.out hg1
          clear hg1
          go_wp2_with fail
          refine (f33_any _ (by omega) (by omega) _).mono ?_
          rintro e w2 ⟨rfl, hg2⟩
          have HG2 : Hid (Grown w w2) := grown_trans HG1.out hg2
          clear hg2
          go_wp2_with fail
          refine (f33_any _ (by omega) (by omega) _).mono ?_
          rintro e w3 ⟨rfl, hg3⟩
          have HG3 : Hid (Grown w w3) := grown_trans HG2.out hg3
          clear hg3
          go_wp2_with fail
          go_roundw
          case rel => exact ⟨j + 1, by omega, by omega, by go_num, HG3.out⟩
          case measure => simp [intOf]; omega
        · go_wp2_with fail
          go_roundw
          case rel => exact ⟨k + 1, by omega, by go_num, HG.out⟩
          case measure => simp [intOf]; omega
    · clear hk
      have HG : Hid (Grown w wr) := hg
      clear hg
      go_wp2_with fail
      go_loopw [3, 4] (fun i _ wr => ∃ k : Nat, k ≤ 8 ∧ i = .int .i64 k ∧ Grown w wr) (fun i _ _ => 8 - (intOf i).toNat)
      case atStart => exact ⟨0, by omega, rfl, HG.out⟩
      case round =>
        clear HG
        obtain ⟨k, hk, rfl, hg⟩ := hrel
        by_cases hlt : k < 8
        · obtain ⟨h1, h4⟩ := kindName_at hlt
          have hd : decide ((k : Int) < 8) = true := decide_eq_true (by omega)
          have H4 : Hid (∀ j : Nat, k < j → j ≤ 8 → ((kindName k).toList == (kindName j).toList) = false) := h4
          clear h4
          have h1' : (((kindName k).size : Int) == 0) = false := beq_eq_false_iff_ne.2 (by omega)
          clear h1
          have HG : Hid (Grown w wr) := hg
          clear hg
          go_wp2_with fail
          go_loopw [4] (fun i wr' => ∃ j : Nat, k < j ∧ j ≤ 9 ∧ i = .int .i64 j ∧ Grown w wr') (fun i _ => 9 - (intOf i).toNat)
          case atStart => exact ⟨k + 1, by omega, by omega, by go_num, HG.out⟩
          case round =>
            clear HG
            rename_i wr0
            obtain ⟨j, hj, hj2, rfl, hg⟩ := hrel
            have HG : Hid (Grown w wr) := hg
            clear hg
            by_cases hlj : j ≤ 8
            · have h5 := H4.out j hj hlj
              go_wp2_with fail
              refine (f34_any _ (by omega) (by omega) _).mono ?_
              rintro e w1 ⟨rfl, hg1⟩
              have HG1 : Hid (Grown w w1) := grown_trans HG.out hg1
              clear hg1
              go_wp2_with fail
              refine (f34_any _ (by omega) (by omega) _).mono ?_
              rintro e w2 ⟨rfl, hg2⟩
              have HG2 : Hid (Grown w w2) := grown_trans HG1.out hg2
              clear hg2
              go_wp2_with fail
              refine (f34_any _ (by omega) (by omega) _).mono ?_
              rintro e w3 ⟨rfl, hg3⟩
              have HG3 : Hid (Grown w w3) := grown_trans HG2.out hg3
              clear hg3
              go_wp2_with fail
              go_roundw
              case rel => exact ⟨j + 1, by omega, by omega, by go_num, HG3.out⟩
              case measure => simp [intOf]; omega
            · go_wp2_with fail
              go_roundw
              case rel => exact ⟨k + 1, by omega, by go_num, HG.out⟩
              case measure => simp [intOf]; omega
        · have HG : Hid (Grown w wr) := hg
          clear hg
          go_wp2
          go_ret
          exact ⟨rfl, HG.out⟩

/-! ### THE ROW's STEP: WRITTEN OUT: LEAVE IT -/
set_option maxRecDepth 100000 in
theorem lifted (os : Os) (started : os.Started) (H : Type) (enc : TypeId × Value → H) :
    ReturnsInHanded {} Try.checked os 10 .any (Rows.namesDifferSpec.pre6 enc Try.prog Try.f10 Rows.namesDifferRow.domain false) (Rows.namesDifferSpec.post enc Try.prog Try.f10 false true false false) := by
  refine returnsInHanded_of_change (C := Try.checked) own started (by kernel_rfl) Try.func10
    (ChangeSpec.witness6 (enc := enc) (C := Try.checked) false ⟨#[], #[], []⟩ 8 (by kernel_rfl) (by kernel_rfl) (by kernel_rfl) (by kernel_rfl)) ?_
  intro W base args ds gs before hval0 hW hcnd _
  have hval : ∀ (j : Nat) t v, Try.f10.params[j]? = some t → args[j]? = some v → Value.okWide Try.prog W .any base t v := hval0
  have hW' := hW
  obtain ⟨p, q, hA0, hV, rfl, hfz, hnd⟩ := hW
  have hA : DataW.TrodAll enc Try.prog W 0 (fun _ => true) true Try.f10.params.toList args.toList ds p := hA0
  rw [Try.params10] at hA hval
  obtain ⟨rfl, rfl, rfl⟩ := trodAll_none hA
  obtain ⟨rfl, rfl⟩ := trodVars_none hV
  clear hA0 hval0
  simp only [List.append_nil] at hW'
  refine (walk  W).mono fun e W' ⟨he, hg⟩ => ?_
  subst he
  exact ⟨_, rfl, post_of_same (pa := []) (pv := []) hW' (fun _ _ _ => (trodAll_cons_mk (shut_bool Try.underlying4 _) trodAll_mk0)) (fun sp _ => rfl) (fun _ _ => rfl) rfl
    (hg.frame _) hg.2.1 (ok_one (by kernel_rfl) rfl (okWide_bool_mk Try.underlying4 _))⟩

theorem over : Rows.namesDifferRow.holds Try.pinned (OpenSpec.ofChange Rows.namesDifferSpec) :=
  OpenClaim.holds_of_wide 10 Try.f10 rfl rfl rfl rfl rfl rfl rfl ⟨rfl, rfl, rfl, rfl, rfl⟩ rfl rfl rfl rfl rfl (by kernel_rfl) Try.func10 (by kernel_rfl)
    (of_decide_eq_true (by kernel_rfl)) (by unfold Func.isWrapper; first | (rw [if_pos (by decide +kernel)]; kernel_rfl) | (rw [if_neg (by decide +kernel)]; exact ⟨rfl, rfl⟩))
    (fun os started H enc _ => lifted os started H enc)

/-- THE STATEMENT -/
theorem proved : Rows.NamesDifferSaid :=
  over
end Go.Proofs.Qxb6500787a.namesDiffer
