/-
  No cell of these rows narrows 'for every input' (looked for: loops, veiled, ifaces, maps, wideKeys, modest, calm, conditions, laid).
  DERIVED. THE GIVEN ROWS OF THIS SEAT. 9 by the template 'for every input the law returns true; each argument reads behind the call as it read before'; 0 by the template 'total and deterministic' (their statements: Qxb6500787aGreatTotals.lean).
  GIVEN WITH THE SEED: the statements are not yours to turn. If you find one false, say at which input.
  Laid BY PROGRAM, IN A SANDBOX (cutbox-rows.mjs): the forced cells as the released guide's own fill.sh prints them over the translation ab6cea5d0736a271… (all of the seat's roots in one cut). By AI agents, Wed Nov 11 2026. No macro, syntax, notation, axiom, sorry.
-/
import Derived.Test.Qxb6500787aGreatChecked
import GoSem.Claim
import GoSem.ClaimJoined
import GoSem.ClaimMapViews
import Derived.JoinedTies
import Derived.KernelRfl
namespace Go.Proofs.Qxb6500787aGreat
/- THE CELL 'sum', in the pinned program and in every row, IS THE sha256 OF THE DUMP (.gsa) THAT Qxb6500787aGreatProg.lean LOADS. Nothing in Lean hashes anything: it is a label: what it is worth is what the hold of that sum in a sandbox is worth. -/
noncomputable def Tryz.pinned : Pinned := { name := "qxb6500787agreat", sum := "ab6cea5d0736a2710810c4645a28925e87ce0a04c8ba3a201365f85691fbfe0f", checked := Tryz.checked }
namespace Rows
def none {H : Type} : Left H := { results := [], args := [] }

/-- 'authzlaw.RefinesModel': WHATEVER THE INPUT: true; the input reads as it did. -/
def refinesModelSpec : ChangeSpec := { name := "refinesModel", fn := fun _ => fun
  | [d] => { results := [.lit (.bool true)], args := [d] }
  | _ => none }
def refinesModelRow : OpenClaim := { program := "qxb6500787agreat", sum := "ab6cea5d0736a2710810c4645a28925e87ce0a04c8ba3a201365f85691fbfe0f", func := "e2e/authzlaw.RefinesModel", spec := "refinesModel", recurses := true, apart := false }
def RefinesModelSaid : Prop := refinesModelRow.holds Tryz.pinned (OpenSpec.ofChange refinesModelSpec)

/-- ITS FALSE NEIGHBOUR: 'it returns false'. Refute it at one input. -/
def refinesModelWrong : ChangeSpec := { name := "refinesModel", fn := fun _ => fun
  | [d] => { results := [.lit (.bool false)], args := [d] }
  | _ => none }
def RefinesModelWrongFalsely : Prop := refinesModelRow.holds Tryz.pinned (OpenSpec.ofChange refinesModelWrong)

/-- 'authzlaw.LoaderAcceptsExactly': WHATEVER THE INPUT: true; the input reads as it did. -/
def loaderAcceptsExactlySpec : ChangeSpec := { name := "loaderAcceptsExactly", fn := fun _ => fun
  | [d] => { results := [.lit (.bool true)], args := [d] }
  | _ => none }
def loaderAcceptsExactlyRow : OpenClaim := { program := "qxb6500787agreat", sum := "ab6cea5d0736a2710810c4645a28925e87ce0a04c8ba3a201365f85691fbfe0f", func := "e2e/authzlaw.LoaderAcceptsExactly", spec := "loaderAcceptsExactly", recurses := true, apart := false }
def LoaderAcceptsExactlySaid : Prop := loaderAcceptsExactlyRow.holds Tryz.pinned (OpenSpec.ofChange loaderAcceptsExactlySpec)

/-- ITS FALSE NEIGHBOUR: 'it returns false'. Refute it at one input. -/
def loaderAcceptsExactlyWrong : ChangeSpec := { name := "loaderAcceptsExactly", fn := fun _ => fun
  | [d] => { results := [.lit (.bool false)], args := [d] }
  | _ => none }
def LoaderAcceptsExactlyWrongFalsely : Prop := loaderAcceptsExactlyRow.holds Tryz.pinned (OpenSpec.ofChange loaderAcceptsExactlyWrong)

/-- 'authzlaw.CertificatesAreSound': WHATEVER THE INPUT: true; the input reads as it did. -/
def certificatesAreSoundSpec : ChangeSpec := { name := "certificatesAreSound", fn := fun _ => fun
  | [d] => { results := [.lit (.bool true)], args := [d] }
  | _ => none }
def certificatesAreSoundRow : OpenClaim := { program := "qxb6500787agreat", sum := "ab6cea5d0736a2710810c4645a28925e87ce0a04c8ba3a201365f85691fbfe0f", func := "e2e/authzlaw.CertificatesAreSound", spec := "certificatesAreSound", recurses := true, apart := false }
def CertificatesAreSoundSaid : Prop := certificatesAreSoundRow.holds Tryz.pinned (OpenSpec.ofChange certificatesAreSoundSpec)

/-- ITS FALSE NEIGHBOUR: 'it returns false'. Refute it at one input. -/
def certificatesAreSoundWrong : ChangeSpec := { name := "certificatesAreSound", fn := fun _ => fun
  | [d] => { results := [.lit (.bool false)], args := [d] }
  | _ => none }
def CertificatesAreSoundWrongFalsely : Prop := certificatesAreSoundRow.holds Tryz.pinned (OpenSpec.ofChange certificatesAreSoundWrong)

/-- 'authzlaw.CertificatesAreComplete': WHATEVER THE INPUT: true; the input reads as it did. -/
def certificatesAreCompleteSpec : ChangeSpec := { name := "certificatesAreComplete", fn := fun _ => fun
  | [d] => { results := [.lit (.bool true)], args := [d] }
  | _ => none }
def certificatesAreCompleteRow : OpenClaim := { program := "qxb6500787agreat", sum := "ab6cea5d0736a2710810c4645a28925e87ce0a04c8ba3a201365f85691fbfe0f", func := "e2e/authzlaw.CertificatesAreComplete", spec := "certificatesAreComplete", recurses := true, apart := false }
def CertificatesAreCompleteSaid : Prop := certificatesAreCompleteRow.holds Tryz.pinned (OpenSpec.ofChange certificatesAreCompleteSpec)

/-- ITS FALSE NEIGHBOUR: 'it returns false'. Refute it at one input. -/
def certificatesAreCompleteWrong : ChangeSpec := { name := "certificatesAreComplete", fn := fun _ => fun
  | [d] => { results := [.lit (.bool false)], args := [d] }
  | _ => none }
def CertificatesAreCompleteWrongFalsely : Prop := certificatesAreCompleteRow.holds Tryz.pinned (OpenSpec.ofChange certificatesAreCompleteWrong)

/-- 'authzlaw.RefusalsAndReadsLeaveNoTrace': WHATEVER THE INPUT: true; the input reads as it did. -/
def refusalsAndReadsLeaveNoTraceSpec : ChangeSpec := { name := "refusalsAndReadsLeaveNoTrace", fn := fun _ => fun
  | [d] => { results := [.lit (.bool true)], args := [d] }
  | _ => none }
def refusalsAndReadsLeaveNoTraceRow : OpenClaim := { program := "qxb6500787agreat", sum := "ab6cea5d0736a2710810c4645a28925e87ce0a04c8ba3a201365f85691fbfe0f", func := "e2e/authzlaw.RefusalsAndReadsLeaveNoTrace", spec := "refusalsAndReadsLeaveNoTrace", recurses := true, apart := false }
def RefusalsAndReadsLeaveNoTraceSaid : Prop := refusalsAndReadsLeaveNoTraceRow.holds Tryz.pinned (OpenSpec.ofChange refusalsAndReadsLeaveNoTraceSpec)

/-- ITS FALSE NEIGHBOUR: 'it returns false'. Refute it at one input. -/
def refusalsAndReadsLeaveNoTraceWrong : ChangeSpec := { name := "refusalsAndReadsLeaveNoTrace", fn := fun _ => fun
  | [d] => { results := [.lit (.bool false)], args := [d] }
  | _ => none }
def RefusalsAndReadsLeaveNoTraceWrongFalsely : Prop := refusalsAndReadsLeaveNoTraceRow.holds Tryz.pinned (OpenSpec.ofChange refusalsAndReadsLeaveNoTraceWrong)

/-- 'authzlaw.CapacityExactly': WHATEVER THE INPUT: true; the input reads as it did. -/
def capacityExactlySpec : ChangeSpec := { name := "capacityExactly", fn := fun _ => fun
  | [d] => { results := [.lit (.bool true)], args := [d] }
  | _ => none }
def capacityExactlyRow : OpenClaim := { program := "qxb6500787agreat", sum := "ab6cea5d0736a2710810c4645a28925e87ce0a04c8ba3a201365f85691fbfe0f", func := "e2e/authzlaw.CapacityExactly", spec := "capacityExactly", recurses := true, apart := false }
def CapacityExactlySaid : Prop := capacityExactlyRow.holds Tryz.pinned (OpenSpec.ofChange capacityExactlySpec)

/-- ITS FALSE NEIGHBOUR: 'it returns false'. Refute it at one input. -/
def capacityExactlyWrong : ChangeSpec := { name := "capacityExactly", fn := fun _ => fun
  | [d] => { results := [.lit (.bool false)], args := [d] }
  | _ => none }
def CapacityExactlyWrongFalsely : Prop := capacityExactlyRow.holds Tryz.pinned (OpenSpec.ofChange capacityExactlyWrong)

/-- 'authzlaw.FreshInstanceAgrees': WHATEVER THE INPUT: true; the input reads as it did. -/
def freshInstanceAgreesSpec : ChangeSpec := { name := "freshInstanceAgrees", fn := fun _ => fun
  | [d] => { results := [.lit (.bool true)], args := [d] }
  | _ => none }
def freshInstanceAgreesRow : OpenClaim := { program := "qxb6500787agreat", sum := "ab6cea5d0736a2710810c4645a28925e87ce0a04c8ba3a201365f85691fbfe0f", func := "e2e/authzlaw.FreshInstanceAgrees", spec := "freshInstanceAgrees", recurses := true, apart := false }
def FreshInstanceAgreesSaid : Prop := freshInstanceAgreesRow.holds Tryz.pinned (OpenSpec.ofChange freshInstanceAgreesSpec)

/-- ITS FALSE NEIGHBOUR: 'it returns false'. Refute it at one input. -/
def freshInstanceAgreesWrong : ChangeSpec := { name := "freshInstanceAgrees", fn := fun _ => fun
  | [d] => { results := [.lit (.bool false)], args := [d] }
  | _ => none }
def FreshInstanceAgreesWrongFalsely : Prop := freshInstanceAgreesRow.holds Tryz.pinned (OpenSpec.ofChange freshInstanceAgreesWrong)

/-- 'authzlaw.PatternsAreSortedAndFull': WHATEVER THE INPUT: true; the input reads as it did. -/
def patternsAreSortedAndFullSpec : ChangeSpec := { name := "patternsAreSortedAndFull", fn := fun _ => fun
  | [d] => { results := [.lit (.bool true)], args := [d] }
  | _ => none }
def patternsAreSortedAndFullRow : OpenClaim := { program := "qxb6500787agreat", sum := "ab6cea5d0736a2710810c4645a28925e87ce0a04c8ba3a201365f85691fbfe0f", func := "e2e/authzlaw.PatternsAreSortedAndFull", spec := "patternsAreSortedAndFull", recurses := true, apart := false }
def PatternsAreSortedAndFullSaid : Prop := patternsAreSortedAndFullRow.holds Tryz.pinned (OpenSpec.ofChange patternsAreSortedAndFullSpec)

/-- ITS FALSE NEIGHBOUR: 'it returns false'. Refute it at one input. -/
def patternsAreSortedAndFullWrong : ChangeSpec := { name := "patternsAreSortedAndFull", fn := fun _ => fun
  | [d] => { results := [.lit (.bool false)], args := [d] }
  | _ => none }
def PatternsAreSortedAndFullWrongFalsely : Prop := patternsAreSortedAndFullRow.holds Tryz.pinned (OpenSpec.ofChange patternsAreSortedAndFullWrong)

/-- 'authzlaw.PolicyTextFollowsTheImage': WHATEVER THE INPUT: true; the input reads as it did. -/
def policyTextFollowsTheImageSpec : ChangeSpec := { name := "policyTextFollowsTheImage", fn := fun _ => fun
  | [d] => { results := [.lit (.bool true)], args := [d] }
  | _ => none }
def policyTextFollowsTheImageRow : OpenClaim := { program := "qxb6500787agreat", sum := "ab6cea5d0736a2710810c4645a28925e87ce0a04c8ba3a201365f85691fbfe0f", func := "e2e/authzlaw.PolicyTextFollowsTheImage", spec := "policyTextFollowsTheImage", recurses := true, apart := false }
def PolicyTextFollowsTheImageSaid : Prop := policyTextFollowsTheImageRow.holds Tryz.pinned (OpenSpec.ofChange policyTextFollowsTheImageSpec)

/-- ITS FALSE NEIGHBOUR: 'it returns false'. Refute it at one input. -/
def policyTextFollowsTheImageWrong : ChangeSpec := { name := "policyTextFollowsTheImage", fn := fun _ => fun
  | [d] => { results := [.lit (.bool false)], args := [d] }
  | _ => none }
def PolicyTextFollowsTheImageWrongFalsely : Prop := policyTextFollowsTheImageRow.holds Tryz.pinned (OpenSpec.ofChange policyTextFollowsTheImageWrong)

end Rows
end Go.Proofs.Qxb6500787aGreat
