/-
  No cell of these rows narrows 'for every input' (looked for: loops, veiled, ifaces, maps, wideKeys, modest, calm, conditions, laid).
  DERIVED. THE GIVEN ROWS OF THIS SEAT. 6 by the template 'for every input the law returns true; each argument reads behind the call as it read before'; 0 by the template 'total and deterministic' (their statements: Qxb6500788aTotals.lean).
  GIVEN WITH THE SEED: the statements are not yours to turn. If you find one false, say at which input.
  Laid BY PROGRAM, IN A SANDBOX (cutbox-rows.mjs): the forced cells as the released guide's own fill.sh prints them over the translation addedd94e00886f4… (all of the seat's roots in one cut). By AI agents, Wed Nov 11 2026. No macro, syntax, notation, axiom, sorry.
-/
import Derived.Test.Qxb6500788aChecked
import GoSem.Claim
import GoSem.ClaimJoined
import GoSem.ClaimMapViews
import Derived.JoinedTies
import Derived.KernelRfl
namespace Go.Proofs.Qxb6500788a
/- THE CELL 'sum', in the pinned program and in every row, IS THE sha256 OF THE DUMP (.gsa) THAT Qxb6500788aProg.lean LOADS. Nothing in Lean hashes anything: it is a label: what it is worth is what the hold of that sum in a sandbox is worth. -/
noncomputable def Try.pinned : Pinned := { name := "qxb6500788a", sum := "addedd94e00886f4f04d12751a03c5e0d0ea7344f11863f496335868685c870d", checked := Try.checked }
namespace Rows
def none {H : Type} : Left H := { results := [], args := [] }

/-- 'evallaw.RefinesModel': WHATEVER THE INPUT: true; the input reads as it did. -/
def refinesModelSpec : ChangeSpec := { name := "refinesModel", fn := fun _ => fun
  | [d] => { results := [.lit (.bool true)], args := [d] }
  | _ => none }
def refinesModelRow : OpenClaim := { program := "qxb6500788a", sum := "addedd94e00886f4f04d12751a03c5e0d0ea7344f11863f496335868685c870d", func := "e2e/evallaw.RefinesModel", spec := "refinesModel", recurses := true, apart := false }
def RefinesModelSaid : Prop := refinesModelRow.holds Try.pinned (OpenSpec.ofChange refinesModelSpec)

/-- ITS FALSE NEIGHBOUR: 'it returns false'. Refute it at one input. -/
def refinesModelWrong : ChangeSpec := { name := "refinesModel", fn := fun _ => fun
  | [d] => { results := [.lit (.bool false)], args := [d] }
  | _ => none }
def RefinesModelWrongFalsely : Prop := refinesModelRow.holds Try.pinned (OpenSpec.ofChange refinesModelWrong)

/-- 'evallaw.RoundsMatchNaive': WHATEVER THE INPUT: true; the input reads as it did. -/
def roundsMatchNaiveSpec : ChangeSpec := { name := "roundsMatchNaive", fn := fun _ => fun
  | [d] => { results := [.lit (.bool true)], args := [d] }
  | _ => none }
def roundsMatchNaiveRow : OpenClaim := { program := "qxb6500788a", sum := "addedd94e00886f4f04d12751a03c5e0d0ea7344f11863f496335868685c870d", func := "e2e/evallaw.RoundsMatchNaive", spec := "roundsMatchNaive", recurses := true, apart := false }
def RoundsMatchNaiveSaid : Prop := roundsMatchNaiveRow.holds Try.pinned (OpenSpec.ofChange roundsMatchNaiveSpec)

/-- ITS FALSE NEIGHBOUR: 'it returns false'. Refute it at one input. -/
def roundsMatchNaiveWrong : ChangeSpec := { name := "roundsMatchNaive", fn := fun _ => fun
  | [d] => { results := [.lit (.bool false)], args := [d] }
  | _ => none }
def RoundsMatchNaiveWrongFalsely : Prop := roundsMatchNaiveRow.holds Try.pinned (OpenSpec.ofChange roundsMatchNaiveWrong)

/-- 'evallaw.StrataAreLeastFixpoints': WHATEVER THE INPUT: true; the input reads as it did. -/
def strataAreLeastFixpointsSpec : ChangeSpec := { name := "strataAreLeastFixpoints", fn := fun _ => fun
  | [d] => { results := [.lit (.bool true)], args := [d] }
  | _ => none }
def strataAreLeastFixpointsRow : OpenClaim := { program := "qxb6500788a", sum := "addedd94e00886f4f04d12751a03c5e0d0ea7344f11863f496335868685c870d", func := "e2e/evallaw.StrataAreLeastFixpoints", spec := "strataAreLeastFixpoints", recurses := true, apart := false }
def StrataAreLeastFixpointsSaid : Prop := strataAreLeastFixpointsRow.holds Try.pinned (OpenSpec.ofChange strataAreLeastFixpointsSpec)

/-- ITS FALSE NEIGHBOUR: 'it returns false'. Refute it at one input. -/
def strataAreLeastFixpointsWrong : ChangeSpec := { name := "strataAreLeastFixpoints", fn := fun _ => fun
  | [d] => { results := [.lit (.bool false)], args := [d] }
  | _ => none }
def StrataAreLeastFixpointsWrongFalsely : Prop := strataAreLeastFixpointsRow.holds Try.pinned (OpenSpec.ofChange strataAreLeastFixpointsWrong)

/-- 'evallaw.AbortRestores': WHATEVER THE INPUT: true; the input reads as it did. -/
def abortRestoresSpec : ChangeSpec := { name := "abortRestores", fn := fun _ => fun
  | [d] => { results := [.lit (.bool true)], args := [d] }
  | _ => none }
def abortRestoresRow : OpenClaim := { program := "qxb6500788a", sum := "addedd94e00886f4f04d12751a03c5e0d0ea7344f11863f496335868685c870d", func := "e2e/evallaw.AbortRestores", spec := "abortRestores", recurses := true, apart := false }
def AbortRestoresSaid : Prop := abortRestoresRow.holds Try.pinned (OpenSpec.ofChange abortRestoresSpec)

/-- ITS FALSE NEIGHBOUR: 'it returns false'. Refute it at one input. -/
def abortRestoresWrong : ChangeSpec := { name := "abortRestores", fn := fun _ => fun
  | [d] => { results := [.lit (.bool false)], args := [d] }
  | _ => none }
def AbortRestoresWrongFalsely : Prop := abortRestoresRow.holds Try.pinned (OpenSpec.ofChange abortRestoresWrong)

/-- 'evallaw.FreshEngineAgrees': WHATEVER THE INPUT: true; the input reads as it did. -/
def freshEngineAgreesSpec : ChangeSpec := { name := "freshEngineAgrees", fn := fun _ => fun
  | [d] => { results := [.lit (.bool true)], args := [d] }
  | _ => none }
def freshEngineAgreesRow : OpenClaim := { program := "qxb6500788a", sum := "addedd94e00886f4f04d12751a03c5e0d0ea7344f11863f496335868685c870d", func := "e2e/evallaw.FreshEngineAgrees", spec := "freshEngineAgrees", recurses := true, apart := false }
def FreshEngineAgreesSaid : Prop := freshEngineAgreesRow.holds Try.pinned (OpenSpec.ofChange freshEngineAgreesSpec)

/-- ITS FALSE NEIGHBOUR: 'it returns false'. Refute it at one input. -/
def freshEngineAgreesWrong : ChangeSpec := { name := "freshEngineAgrees", fn := fun _ => fun
  | [d] => { results := [.lit (.bool false)], args := [d] }
  | _ => none }
def FreshEngineAgreesWrongFalsely : Prop := freshEngineAgreesRow.holds Try.pinned (OpenSpec.ofChange freshEngineAgreesWrong)

/-- 'evallaw.TakesExactlyWellLayered': WHATEVER THE INPUT: true; the input reads as it did. -/
def takesExactlyWellLayeredSpec : ChangeSpec := { name := "takesExactlyWellLayered", fn := fun _ => fun
  | [d] => { results := [.lit (.bool true)], args := [d] }
  | _ => none }
def takesExactlyWellLayeredRow : OpenClaim := { program := "qxb6500788a", sum := "addedd94e00886f4f04d12751a03c5e0d0ea7344f11863f496335868685c870d", func := "e2e/evallaw.TakesExactlyWellLayered", spec := "takesExactlyWellLayered", apart := false }
def TakesExactlyWellLayeredSaid : Prop := takesExactlyWellLayeredRow.holds Try.pinned (OpenSpec.ofChange takesExactlyWellLayeredSpec)

/-- ITS FALSE NEIGHBOUR: 'it returns false'. Refute it at one input. -/
def takesExactlyWellLayeredWrong : ChangeSpec := { name := "takesExactlyWellLayered", fn := fun _ => fun
  | [d] => { results := [.lit (.bool false)], args := [d] }
  | _ => none }
def TakesExactlyWellLayeredWrongFalsely : Prop := takesExactlyWellLayeredRow.holds Try.pinned (OpenSpec.ofChange takesExactlyWellLayeredWrong)

end Rows
end Go.Proofs.Qxb6500788a
