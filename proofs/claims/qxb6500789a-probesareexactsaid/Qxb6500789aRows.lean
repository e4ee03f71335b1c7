/-
  No cell of these rows narrows 'for every input' (looked for: loops, veiled, ifaces, maps, wideKeys, modest, calm, conditions, laid).
  DERIVED. THE GIVEN ROWS OF THIS SEAT. 7 by the template 'for every input the law returns true; each argument reads behind the call as it read before'; 0 by the template 'total and deterministic' (their statements: Qxb6500789aTotals.lean).
  GIVEN WITH THE SEED: the statements are not yours to turn. If you find one false, say at which input.
  Laid BY PROGRAM, IN A SANDBOX (cutbox-rows.mjs): the forced cells as the released guide's own fill.sh prints them over the translation 36fe99bedcd8bca9… (all of the seat's roots in one cut). By AI agents, Wed Nov 11 2026. No macro, syntax, notation, axiom, sorry.
-/
import Derived.Test.Qxb6500789aChecked
import GoSem.Claim
import GoSem.ClaimJoined
import GoSem.ClaimMapViews
import Derived.JoinedTies
import Derived.KernelRfl
namespace Go.Proofs.Qxb6500789a
/- THE CELL 'sum', in the pinned program and in every row, IS THE sha256 OF THE DUMP (.gsa) THAT Qxb6500789aProg.lean LOADS. Nothing in Lean hashes anything: it is a label: what it is worth is what the hold of that sum in a sandbox is worth. -/
noncomputable def Try.pinned : Pinned := { name := "qxb6500789a", sum := "36fe99bedcd8bca903b5310a1e5eab09587feb09d5525421561a0ead95a00dbe", checked := Try.checked }
namespace Rows
def none {H : Type} : Left H := { results := [], args := [] }

/-- 'tuplestorelaw.RefinesModel': WHATEVER THE INPUT: true; the input reads as it did. -/
def refinesModelSpec : ChangeSpec := { name := "refinesModel", fn := fun _ => fun
  | [d] => { results := [.lit (.bool true)], args := [d] }
  | _ => none }
def refinesModelRow : OpenClaim := { program := "qxb6500789a", sum := "36fe99bedcd8bca903b5310a1e5eab09587feb09d5525421561a0ead95a00dbe", func := "e2e/tuplestorelaw.RefinesModel", spec := "refinesModel", apart := false }
def RefinesModelSaid : Prop := refinesModelRow.holds Try.pinned (OpenSpec.ofChange refinesModelSpec)

/-- ITS FALSE NEIGHBOUR: 'it returns false'. Refute it at one input. -/
def refinesModelWrong : ChangeSpec := { name := "refinesModel", fn := fun _ => fun
  | [d] => { results := [.lit (.bool false)], args := [d] }
  | _ => none }
def RefinesModelWrongFalsely : Prop := refinesModelRow.holds Try.pinned (OpenSpec.ofChange refinesModelWrong)

/-- 'tuplestorelaw.RelationsAreListSets': WHATEVER THE INPUT: true; the input reads as it did. -/
def relationsAreListSetsSpec : ChangeSpec := { name := "relationsAreListSets", fn := fun _ => fun
  | [d] => { results := [.lit (.bool true)], args := [d] }
  | _ => none }
def relationsAreListSetsRow : OpenClaim := { program := "qxb6500789a", sum := "36fe99bedcd8bca903b5310a1e5eab09587feb09d5525421561a0ead95a00dbe", func := "e2e/tuplestorelaw.RelationsAreListSets", spec := "relationsAreListSets", apart := false }
def RelationsAreListSetsSaid : Prop := relationsAreListSetsRow.holds Try.pinned (OpenSpec.ofChange relationsAreListSetsSpec)

/-- ITS FALSE NEIGHBOUR: 'it returns false'. Refute it at one input. -/
def relationsAreListSetsWrong : ChangeSpec := { name := "relationsAreListSets", fn := fun _ => fun
  | [d] => { results := [.lit (.bool false)], args := [d] }
  | _ => none }
def RelationsAreListSetsWrongFalsely : Prop := relationsAreListSetsRow.holds Try.pinned (OpenSpec.ofChange relationsAreListSetsWrong)

/-- 'tuplestorelaw.DuplicateAndAbsentReport': WHATEVER THE INPUT: true; the input reads as it did. -/
def duplicateAndAbsentReportSpec : ChangeSpec := { name := "duplicateAndAbsentReport", fn := fun _ => fun
  | [d] => { results := [.lit (.bool true)], args := [d] }
  | _ => none }
def duplicateAndAbsentReportRow : OpenClaim := { program := "qxb6500789a", sum := "36fe99bedcd8bca903b5310a1e5eab09587feb09d5525421561a0ead95a00dbe", func := "e2e/tuplestorelaw.DuplicateAndAbsentReport", spec := "duplicateAndAbsentReport", apart := false }
def DuplicateAndAbsentReportSaid : Prop := duplicateAndAbsentReportRow.holds Try.pinned (OpenSpec.ofChange duplicateAndAbsentReportSpec)

/-- ITS FALSE NEIGHBOUR: 'it returns false'. Refute it at one input. -/
def duplicateAndAbsentReportWrong : ChangeSpec := { name := "duplicateAndAbsentReport", fn := fun _ => fun
  | [d] => { results := [.lit (.bool false)], args := [d] }
  | _ => none }
def DuplicateAndAbsentReportWrongFalsely : Prop := duplicateAndAbsentReportRow.holds Try.pinned (OpenSpec.ofChange duplicateAndAbsentReportWrong)

/-- 'tuplestorelaw.ProbesAreExact': WHATEVER THE INPUT: true; the input reads as it did. -/
def probesAreExactSpec : ChangeSpec := { name := "probesAreExact", fn := fun _ => fun
  | [d] => { results := [.lit (.bool true)], args := [d] }
  | _ => none }
def probesAreExactRow : OpenClaim := { program := "qxb6500789a", sum := "36fe99bedcd8bca903b5310a1e5eab09587feb09d5525421561a0ead95a00dbe", func := "e2e/tuplestorelaw.ProbesAreExact", spec := "probesAreExact", apart := false }
def ProbesAreExactSaid : Prop := probesAreExactRow.holds Try.pinned (OpenSpec.ofChange probesAreExactSpec)

/-- ITS FALSE NEIGHBOUR: 'it returns false'. Refute it at one input. -/
def probesAreExactWrong : ChangeSpec := { name := "probesAreExact", fn := fun _ => fun
  | [d] => { results := [.lit (.bool false)], args := [d] }
  | _ => none }
def ProbesAreExactWrongFalsely : Prop := probesAreExactRow.holds Try.pinned (OpenSpec.ofChange probesAreExactWrong)

/-- 'tuplestorelaw.InterningIsInjectiveAndStable': WHATEVER THE INPUT: true; the input reads as it did. -/
def interningIsInjectiveAndStableSpec : ChangeSpec := { name := "interningIsInjectiveAndStable", fn := fun _ => fun
  | [d] => { results := [.lit (.bool true)], args := [d] }
  | _ => none }
def interningIsInjectiveAndStableRow : OpenClaim := { program := "qxb6500789a", sum := "36fe99bedcd8bca903b5310a1e5eab09587feb09d5525421561a0ead95a00dbe", func := "e2e/tuplestorelaw.InterningIsInjectiveAndStable", spec := "interningIsInjectiveAndStable", apart := false }
def InterningIsInjectiveAndStableSaid : Prop := interningIsInjectiveAndStableRow.holds Try.pinned (OpenSpec.ofChange interningIsInjectiveAndStableSpec)

/-- ITS FALSE NEIGHBOUR: 'it returns false'. Refute it at one input. -/
def interningIsInjectiveAndStableWrong : ChangeSpec := { name := "interningIsInjectiveAndStable", fn := fun _ => fun
  | [d] => { results := [.lit (.bool false)], args := [d] }
  | _ => none }
def InterningIsInjectiveAndStableWrongFalsely : Prop := interningIsInjectiveAndStableRow.holds Try.pinned (OpenSpec.ofChange interningIsInjectiveAndStableWrong)

/-- 'tuplestorelaw.FullRefusesWithItsCode': WHATEVER THE INPUT: true; the input reads as it did. -/
def fullRefusesWithItsCodeSpec : ChangeSpec := { name := "fullRefusesWithItsCode", fn := fun _ => fun
  | [d] => { results := [.lit (.bool true)], args := [d] }
  | _ => none }
def fullRefusesWithItsCodeRow : OpenClaim := { program := "qxb6500789a", sum := "36fe99bedcd8bca903b5310a1e5eab09587feb09d5525421561a0ead95a00dbe", func := "e2e/tuplestorelaw.FullRefusesWithItsCode", spec := "fullRefusesWithItsCode", apart := false }
def FullRefusesWithItsCodeSaid : Prop := fullRefusesWithItsCodeRow.holds Try.pinned (OpenSpec.ofChange fullRefusesWithItsCodeSpec)

/-- ITS FALSE NEIGHBOUR: 'it returns false'. Refute it at one input. -/
def fullRefusesWithItsCodeWrong : ChangeSpec := { name := "fullRefusesWithItsCode", fn := fun _ => fun
  | [d] => { results := [.lit (.bool false)], args := [d] }
  | _ => none }
def FullRefusesWithItsCodeWrongFalsely : Prop := fullRefusesWithItsCodeRow.holds Try.pinned (OpenSpec.ofChange fullRefusesWithItsCodeWrong)

/-- 'tuplestorelaw.RefusalsChangeNothing': WHATEVER THE INPUT: true; the input reads as it did. -/
def refusalsChangeNothingSpec : ChangeSpec := { name := "refusalsChangeNothing", fn := fun _ => fun
  | [d] => { results := [.lit (.bool true)], args := [d] }
  | _ => none }
def refusalsChangeNothingRow : OpenClaim := { program := "qxb6500789a", sum := "36fe99bedcd8bca903b5310a1e5eab09587feb09d5525421561a0ead95a00dbe", func := "e2e/tuplestorelaw.RefusalsChangeNothing", spec := "refusalsChangeNothing", apart := false }
def RefusalsChangeNothingSaid : Prop := refusalsChangeNothingRow.holds Try.pinned (OpenSpec.ofChange refusalsChangeNothingSpec)

/-- ITS FALSE NEIGHBOUR: 'it returns false'. Refute it at one input. -/
def refusalsChangeNothingWrong : ChangeSpec := { name := "refusalsChangeNothing", fn := fun _ => fun
  | [d] => { results := [.lit (.bool false)], args := [d] }
  | _ => none }
def RefusalsChangeNothingWrongFalsely : Prop := refusalsChangeNothingRow.holds Try.pinned (OpenSpec.ofChange refusalsChangeNothingWrong)

end Rows
end Go.Proofs.Qxb6500789a
