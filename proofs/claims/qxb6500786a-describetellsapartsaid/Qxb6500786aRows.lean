/-
  No cell of these rows narrows 'for every input' (looked for: loops, veiled, ifaces, maps, wideKeys, modest, calm, conditions, laid).
  DERIVED. THE GIVEN ROWS OF THIS SEAT. 4 by the template 'for every input the law returns true; each argument reads behind the call as it read before'; 0 by the template 'total and deterministic' (their statements: Qxb6500786aTotals.lean).
  GIVEN WITH THE SEED: the statements are not yours to turn. If you find one false, say at which input.
  Laid BY PROGRAM, IN A SANDBOX (cutbox-rows.mjs): the forced cells as the released guide's own fill.sh prints them over the translation 8138b00dd08a5e6e… (all of the seat's roots in one cut). By AI agents, Wed Nov 11 2026. No macro, syntax, notation, axiom, sorry.
-/
import Derived.Test.Qxb6500786aChecked
import GoSem.Claim
import GoSem.ClaimJoined
import GoSem.ClaimMapViews
import Derived.JoinedTies
import Derived.KernelRfl
namespace Go.Proofs.Qxb6500786a
/- THE CELL 'sum', in the pinned program and in every row, IS THE sha256 OF THE DUMP (.gsa) THAT Qxb6500786aProg.lean LOADS. Nothing in Lean hashes anything: it is a label: what it is worth is what the hold of that sum in a sandbox is worth. -/
noncomputable def Try.pinned : Pinned := { name := "qxb6500786a", sum := "8138b00dd08a5e6ed50f1d69bdb542d6b550f0a53e77cd06580c6ce98c11ada6", checked := Try.checked }
namespace Rows
def none {H : Type} : Left H := { results := [], args := [] }

/-- 'ledgerlaw.DescribeTellsApart': WHATEVER THE INPUT: true; the input reads as it did. -/
def describeTellsApartSpec : ChangeSpec := { name := "describeTellsApart", fn := fun _ => fun
  | [d] => { results := [.lit (.bool true)], args := [d] }
  | _ => none }
def describeTellsApartRow : OpenClaim := { program := "qxb6500786a", sum := "8138b00dd08a5e6ed50f1d69bdb542d6b550f0a53e77cd06580c6ce98c11ada6", func := "e2e/ledgerlaw.DescribeTellsApart", spec := "describeTellsApart", apart := false }
def DescribeTellsApartSaid : Prop := describeTellsApartRow.holds Try.pinned (OpenSpec.ofChange describeTellsApartSpec)

/-- ITS FALSE NEIGHBOUR: 'it returns false'. Refute it at one input. -/
def describeTellsApartWrong : ChangeSpec := { name := "describeTellsApart", fn := fun _ => fun
  | [d] => { results := [.lit (.bool false)], args := [d] }
  | _ => none }
def DescribeTellsApartWrongFalsely : Prop := describeTellsApartRow.holds Try.pinned (OpenSpec.ofChange describeTellsApartWrong)

/-- 'ledgerlaw.BuildersCanonical': WHATEVER THE INPUT: true; the input reads as it did. -/
def buildersCanonicalSpec : ChangeSpec := { name := "buildersCanonical", fn := fun _ => fun
  | [d] => { results := [.lit (.bool true)], args := [d] }
  | _ => none }
def buildersCanonicalRow : OpenClaim := { program := "qxb6500786a", sum := "8138b00dd08a5e6ed50f1d69bdb542d6b550f0a53e77cd06580c6ce98c11ada6", func := "e2e/ledgerlaw.BuildersCanonical", spec := "buildersCanonical", apart := false }
def BuildersCanonicalSaid : Prop := buildersCanonicalRow.holds Try.pinned (OpenSpec.ofChange buildersCanonicalSpec)

/-- ITS FALSE NEIGHBOUR: 'it returns false'. Refute it at one input. -/
def buildersCanonicalWrong : ChangeSpec := { name := "buildersCanonical", fn := fun _ => fun
  | [d] => { results := [.lit (.bool false)], args := [d] }
  | _ => none }
def BuildersCanonicalWrongFalsely : Prop := buildersCanonicalRow.holds Try.pinned (OpenSpec.ofChange buildersCanonicalWrong)

/-- 'ledgerlaw.ItoaRoundTrip': WHATEVER THE INPUT: true; the input reads as it did. -/
def itoaRoundTripSpec : ChangeSpec := { name := "itoaRoundTrip", fn := fun _ => fun
  | [d] => { results := [.lit (.bool true)], args := [d] }
  | _ => none }
def itoaRoundTripRow : OpenClaim := { program := "qxb6500786a", sum := "8138b00dd08a5e6ed50f1d69bdb542d6b550f0a53e77cd06580c6ce98c11ada6", func := "e2e/ledgerlaw.ItoaRoundTrip", spec := "itoaRoundTrip", apart := false }
def ItoaRoundTripSaid : Prop := itoaRoundTripRow.holds Try.pinned (OpenSpec.ofChange itoaRoundTripSpec)

/-- ITS FALSE NEIGHBOUR: 'it returns false'. Refute it at one input. -/
def itoaRoundTripWrong : ChangeSpec := { name := "itoaRoundTrip", fn := fun _ => fun
  | [d] => { results := [.lit (.bool false)], args := [d] }
  | _ => none }
def ItoaRoundTripWrongFalsely : Prop := itoaRoundTripRow.holds Try.pinned (OpenSpec.ofChange itoaRoundTripWrong)

/-- 'ledgerlaw.CodesAreNamed': WHATEVER THE INPUT: true; the input reads as it did. -/
def codesAreNamedSpec : ChangeSpec := { name := "codesAreNamed", fn := fun _ => fun
  | [] => { results := [.lit (.bool true)], args := [] }
  | _ => none }
def codesAreNamedRow : OpenClaim := { program := "qxb6500786a", sum := "8138b00dd08a5e6ed50f1d69bdb542d6b550f0a53e77cd06580c6ce98c11ada6", func := "e2e/ledgerlaw.CodesAreNamed", spec := "codesAreNamed", apart := false }
def CodesAreNamedSaid : Prop := codesAreNamedRow.holds Try.pinned (OpenSpec.ofChange codesAreNamedSpec)

/-- ITS FALSE NEIGHBOUR: 'it returns false'. Refute it at one input. -/
def codesAreNamedWrong : ChangeSpec := { name := "codesAreNamed", fn := fun _ => fun
  | [] => { results := [.lit (.bool false)], args := [] }
  | _ => none }
def CodesAreNamedWrongFalsely : Prop := codesAreNamedRow.holds Try.pinned (OpenSpec.ofChange codesAreNamedWrong)

end Rows
end Go.Proofs.Qxb6500786a
