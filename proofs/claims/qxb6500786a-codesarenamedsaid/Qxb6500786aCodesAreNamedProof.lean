/- CodesAreNamed. -/
import Derived.Test.Qxb6500786aRows
import Derived.WalkKit
import Derived.ProofKit
import Derived.OpenShut
import Derived.ShutString
import Derived.Test.Qxb6500786aNames
namespace Go.Proofs.Qxb6500786a.codesAreNamed
open Go.ChangeShapes Go.WideShapes Go.ChangeAt Go.RowKit
open Go.ChangeMaps (open_string shut_string)
set_option linter.unusedVariables false      -- a walk need not use every 'w<i>' (that an integer argument fits its kind)

theorem own : ownKnob Try.prog.godebug = none := by kernel_rfl

def fine (k : Nat) : Bool := ((nameOf k).toList == [117, 110, 107, 110, 111, 119, 110]) == false && ((explainOf k).toList == [110, 111, 32, 115, 117, 99, 104, 32, 99, 111, 100, 101]) == false && (classOf k == 6) == false && (List.range k).all fun j => ((nameOf j).toList == (nameOf k).toList) == false
theorem all_fine : (List.range 49).all fine = true := by decide +kernel
theorem fine_at {k : Nat} (h : k < 49) : ((nameOf k).toList == [117, 110, 107, 110, 111, 119, 110]) = false ∧ ((explainOf k).toList == [110, 111, 32, 115, 117, 99, 104, 32, 99, 111, 100, 101]) = false ∧ (classOf k == 6) = false ∧ ∀ j : Nat, j < k → ((nameOf j).toList == (nameOf k).toList) = false := by
  have := List.all_eq_true.1 all_fine k (List.mem_range.2 h)
  unfold fine at this
  simp only [Bool.and_eq_true, beq_iff_eq] at this
  obtain ⟨⟨⟨a, b⟩, c⟩, d⟩ := this
  refine ⟨a, b, c, fun j hj => ?_⟩
  have := List.all_eq_true.1 d j (List.mem_range.2 hj)
  simpa using this

set_option maxHeartbeats 1000000 in
theorem walk (w : World) :
    Calls Try.prog 6 #[] w fun e w' => e = .returned (.bool true) ∧ Grown w w' := by
  go_enter Try.func6, Try.ntmps6
  go_wp2_with fail
  go_loop [1, 2] (fun i _ => ∃ k : Nat, k ≤ 49 ∧ i = .int .i64 k) (fun i _ => 49 - (intOf i).toNat)
  case atStart => exact ⟨0, by omega, rfl⟩
  case round =>
    obtain ⟨k, hk, rfl⟩ := hrel
    by_cases hlt : k < 49
    · obtain ⟨h1, h2, h3, h4⟩ := fine_at hlt
      have H4 : Hid (∀ j : Nat, j < k → ((nameOf j).toList == (nameOf k).toList) = false) := h4
      clear h4
      go_wp2_with (first | (go_at_call 15; refine (f15_any _ _).mono ?_; rintro e w' ⟨rfl, rfl⟩) | (go_at_call 16; refine (f16_any _ _).mono ?_; rintro e w' ⟨rfl, rfl⟩) | (go_at_call 17; refine (f17_any _ _).mono ?_; rintro e w' ⟨rfl, rfl⟩))
      go_loop [2] (fun i => ∃ j : Nat, j ≤ k ∧ i = .int .i64 j) (fun i => k - (intOf i).toNat)
      case atStart => exact ⟨0, by omega, rfl⟩
      case round =>
        obtain ⟨j, hj, rfl⟩ := hrel
        by_cases hlj : j < k
        · have h5 := H4.out j hlj
          go_wp2_with (first | (go_at_call 15; refine (f15_any _ _).mono ?_; rintro e w' ⟨rfl, rfl⟩))
          go_round
          case rel => exact ⟨j + 1, by omega, by go_num⟩
          case measure => simp [intOf]; omega
        · go_wp2
          go_round
          case rel => exact ⟨k + 1, by omega, by go_num⟩
          case measure => simp [intOf]; omega
    · clear hk
      have i0 : ∀ w, Sem.run Try.prog (Instr.index 52 (.agg #[.int .i64 (-1), .int .i64 49]) (.int .i64 0)) w = .ok (.int .i64 (-1)) w := fun w => by kernel_rfl
      have i1 : ∀ w, Sem.run Try.prog (Instr.index 52 (.agg #[.int .i64 (-1), .int .i64 49]) (.int .i64 1)) w = .ok (.int .i64 49) w := fun w => by kernel_rfl
      have a1 : (nameOf (-1)).toList = [117, 110, 107, 110, 111, 119, 110] := by decide +kernel
      have a2 : (explainOf (-1)).toList = [110, 111, 32, 115, 117, 99, 104, 32, 99, 111, 100, 101] := by decide +kernel
      have a3 : classOf (-1) = 6 := by decide +kernel
      have b1 : (nameOf 49).toList = [117, 110, 107, 110, 111, 119, 110] := by decide +kernel
      have b2 : (explainOf 49).toList = [110, 111, 32, 115, 117, 99, 104, 32, 99, 111, 100, 101] := by decide +kernel
      have b3 : classOf 49 = 6 := by decide +kernel
      go_wp2_with (first | (go_at_call 15; refine (f15_any _ _).mono ?_; rintro e w' ⟨rfl, rfl⟩) | (go_at_call 16; refine (f16_any _ _).mono ?_; rintro e w' ⟨rfl, rfl⟩) | (go_at_call 17; refine (f17_any _ _).mono ?_; rintro e w' ⟨rfl, rfl⟩))
      refine wp_loop_rounds 3 ?_
      rw [rounds_succ]
      go_wp2_with (first | (go_at_call 15; refine (f15_any _ _).mono ?_; rintro e w' ⟨rfl, rfl⟩) | (go_at_call 16; refine (f16_any _ _).mono ?_; rintro e w' ⟨rfl, rfl⟩) | (go_at_call 17; refine (f17_any _ _).mono ?_; rintro e w' ⟨rfl, rfl⟩))
      rw [rounds_succ]
      go_wp2_with (first | (go_at_call 15; refine (f15_any _ _).mono ?_; rintro e w' ⟨rfl, rfl⟩) | (go_at_call 16; refine (f16_any _ _).mono ?_; rintro e w' ⟨rfl, rfl⟩) | (go_at_call 17; refine (f17_any _ _).mono ?_; rintro e w' ⟨rfl, rfl⟩))
      rw [rounds_succ]
      go_wp2_with fail
      go_ret
      exact ⟨rfl, Grown.refl _⟩

/-! ### THE ROW's STEP: WRITTEN OUT: LEAVE IT -/
set_option maxRecDepth 100000 in
theorem lifted (os : Os) (started : os.Started) (H : Type) (enc : TypeId × Value → H) :
    ReturnsInHanded {} Try.checked os 6 .any (Rows.codesAreNamedSpec.pre6 enc Try.prog Try.f6 Rows.codesAreNamedRow.domain false) (Rows.codesAreNamedSpec.post enc Try.prog Try.f6 false true false false) := by
  refine returnsInHanded_of_change (C := Try.checked) own started (by kernel_rfl) Try.func6
    (ChangeSpec.witness6 (enc := enc) (C := Try.checked) false ⟨#[], #[], []⟩ 8 (by kernel_rfl) (by kernel_rfl) (by kernel_rfl) (by kernel_rfl)) ?_
  intro W base args ds gs before hval0 hW hcnd _
  have hval : ∀ (j : Nat) t v, Try.f6.params[j]? = some t → args[j]? = some v → Value.okWide Try.prog W .any base t v := hval0
  have hW' := hW
  obtain ⟨p, q, hA0, hV, rfl, hfz, hnd⟩ := hW
  have hA : DataW.TrodAll enc Try.prog W 0 (fun _ => true) true Try.f6.params.toList args.toList ds p := hA0
  rw [Try.params6] at hA hval
  obtain ⟨rfl, rfl, rfl⟩ := trodAll_none hA
  obtain ⟨rfl, rfl⟩ := trodVars_none hV
  clear hA0 hval0
  simp only [List.append_nil] at hW'
  refine (walk  W).mono fun e W' ⟨he, hg⟩ => ?_
  subst he
  exact ⟨_, rfl, post_of_same (pa := []) (pv := []) hW' (fun _ _ _ => (trodAll_cons_mk (shut_bool Try.underlying4 _) trodAll_mk0)) (fun sp _ => rfl) (fun _ _ => rfl) rfl
    (hg.frame _) hg.2.1 (ok_one (by kernel_rfl) rfl (okWide_bool_mk Try.underlying4 _))⟩

theorem over : Rows.codesAreNamedRow.holds Try.pinned (OpenSpec.ofChange Rows.codesAreNamedSpec) :=
  OpenClaim.holds_of_wide 6 Try.f6 rfl rfl rfl rfl rfl rfl rfl ⟨rfl, rfl, rfl, rfl, rfl⟩ rfl rfl rfl rfl rfl (by kernel_rfl) Try.func6 (by kernel_rfl)
    (of_decide_eq_true (by kernel_rfl)) (by unfold Func.isWrapper; first | (rw [if_pos (by decide +kernel)]; kernel_rfl) | (rw [if_neg (by decide +kernel)]; exact ⟨rfl, rfl⟩))
    (fun os started H enc _ => lifted os started H enc)

/-- THE STATEMENT -/
theorem proved : Rows.CodesAreNamedSaid :=
  over
end Go.Proofs.Qxb6500786a.codesAreNamed
