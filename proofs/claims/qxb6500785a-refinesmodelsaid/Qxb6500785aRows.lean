/-
  No cell of these rows narrows 'for every input' (looked for: loops, veiled, ifaces, maps, wideKeys, modest, calm, conditions, laid).
  DERIVED. THE GIVEN ROWS OF THIS SEAT. 9 by the template 'for every input the law returns true; each argument reads behind the call as it read before'; 0 by the template 'total and deterministic' (their statements: Qxb6500785aTotals.lean).
  GIVEN WITH THE SEED: the statements are not yours to turn. If you find one false, say at which input.
  Laid BY PROGRAM, IN A SANDBOX (cutbox-rows.mjs): the forced cells as the released guide's own fill.sh prints them over the translation 11a5c9e495c42447… (all of the seat's roots in one cut). By AI agents, Wed Nov 11 2026. No macro, syntax, notation, axiom, sorry.
-/
import Derived.Test.Qxb6500785aChecked
import GoSem.Claim
import GoSem.ClaimJoined
import GoSem.ClaimMapViews
import Derived.JoinedTies
import Derived.KernelRfl
namespace Go.Proofs.Qxb6500785a
/- THE CELL 'sum', in the pinned program and in every row, IS THE sha256 OF THE DUMP (.gsa) THAT Qxb6500785aProg.lean LOADS. Nothing in Lean hashes anything: it is a label: what it is worth is what the hold of that sum in a sandbox is worth. -/
noncomputable def Try.pinned : Pinned := { name := "qxb6500785a", sum := "11a5c9e495c4244755b39b0fc89576da0cab83fc35e2204708ef3b921e6a70cf", checked := Try.checked }
namespace Rows
def none {H : Type} : Left H := { results := [], args := [] }

/-- 'digestlaw.StreamEqualsOneShot': WHATEVER THE INPUT: true; the input reads as it did. -/
def streamEqualsOneShotSpec : ChangeSpec := { name := "streamEqualsOneShot", fn := fun _ => fun
  | [d] => { results := [.lit (.bool true)], args := [d] }
  | _ => none }
def streamEqualsOneShotRow : OpenClaim := { program := "qxb6500785a", sum := "11a5c9e495c4244755b39b0fc89576da0cab83fc35e2204708ef3b921e6a70cf", func := "e2e/digestlaw.StreamEqualsOneShot", spec := "streamEqualsOneShot", apart := false }
def StreamEqualsOneShotSaid : Prop := streamEqualsOneShotRow.holds Try.pinned (OpenSpec.ofChange streamEqualsOneShotSpec)

/-- ITS FALSE NEIGHBOUR: 'it returns false'. Refute it at one input. -/
def streamEqualsOneShotWrong : ChangeSpec := { name := "streamEqualsOneShot", fn := fun _ => fun
  | [d] => { results := [.lit (.bool false)], args := [d] }
  | _ => none }
def StreamEqualsOneShotWrongFalsely : Prop := streamEqualsOneShotRow.holds Try.pinned (OpenSpec.ofChange streamEqualsOneShotWrong)

/-- 'digestlaw.RefinesModel': WHATEVER THE INPUT: true; the input reads as it did. -/
def refinesModelSpec : ChangeSpec := { name := "refinesModel", fn := fun _ => fun
  | [d] => { results := [.lit (.bool true)], args := [d] }
  | _ => none }
def refinesModelRow : OpenClaim := { program := "qxb6500785a", sum := "11a5c9e495c4244755b39b0fc89576da0cab83fc35e2204708ef3b921e6a70cf", func := "e2e/digestlaw.RefinesModel", spec := "refinesModel", recurses := true, apart := false }
def RefinesModelSaid : Prop := refinesModelRow.holds Try.pinned (OpenSpec.ofChange refinesModelSpec)

/-- ITS FALSE NEIGHBOUR: 'it returns false'. Refute it at one input. -/
def refinesModelWrong : ChangeSpec := { name := "refinesModel", fn := fun _ => fun
  | [d] => { results := [.lit (.bool false)], args := [d] }
  | _ => none }
def RefinesModelWrongFalsely : Prop := refinesModelRow.holds Try.pinned (OpenSpec.ofChange refinesModelWrong)

/-- 'digestlaw.LogShowsCollisions': WHATEVER THE INPUT: true; the input reads as it did. -/
def logShowsCollisionsSpec : ChangeSpec := { name := "logShowsCollisions", fn := fun _ => fun
  | [d] => { results := [.lit (.bool true)], args := [d] }
  | _ => none }
def logShowsCollisionsRow : OpenClaim := { program := "qxb6500785a", sum := "11a5c9e495c4244755b39b0fc89576da0cab83fc35e2204708ef3b921e6a70cf", func := "e2e/digestlaw.LogShowsCollisions", spec := "logShowsCollisions", apart := false }
def LogShowsCollisionsSaid : Prop := logShowsCollisionsRow.holds Try.pinned (OpenSpec.ofChange logShowsCollisionsSpec)

/-- ITS FALSE NEIGHBOUR: 'it returns false'. Refute it at one input. -/
def logShowsCollisionsWrong : ChangeSpec := { name := "logShowsCollisions", fn := fun _ => fun
  | [d] => { results := [.lit (.bool false)], args := [d] }
  | _ => none }
def LogShowsCollisionsWrongFalsely : Prop := logShowsCollisionsRow.holds Try.pinned (OpenSpec.ofChange logShowsCollisionsWrong)

/-- 'digestlaw.DomainsApart': WHATEVER THE INPUT: true; the input reads as it did. -/
def domainsApartSpec : ChangeSpec := { name := "domainsApart", fn := fun _ => fun
  | [d] => { results := [.lit (.bool true)], args := [d] }
  | _ => none }
def domainsApartRow : OpenClaim := { program := "qxb6500785a", sum := "11a5c9e495c4244755b39b0fc89576da0cab83fc35e2204708ef3b921e6a70cf", func := "e2e/digestlaw.DomainsApart", spec := "domainsApart", apart := false }
def DomainsApartSaid : Prop := domainsApartRow.holds Try.pinned (OpenSpec.ofChange domainsApartSpec)

/-- ITS FALSE NEIGHBOUR: 'it returns false'. Refute it at one input. -/
def domainsApartWrong : ChangeSpec := { name := "domainsApart", fn := fun _ => fun
  | [d] => { results := [.lit (.bool false)], args := [d] }
  | _ => none }
def DomainsApartWrongFalsely : Prop := domainsApartRow.holds Try.pinned (OpenSpec.ofChange domainsApartWrong)

/-- 'digestlaw.NodeIsTagged': WHATEVER THE INPUT: true; the input reads as it did. -/
def nodeIsTaggedSpec : ChangeSpec := { name := "nodeIsTagged", fn := fun _ => fun
  | [d] => { results := [.lit (.bool true)], args := [d] }
  | _ => none }
def nodeIsTaggedRow : OpenClaim := { program := "qxb6500785a", sum := "11a5c9e495c4244755b39b0fc89576da0cab83fc35e2204708ef3b921e6a70cf", func := "e2e/digestlaw.NodeIsTagged", spec := "nodeIsTagged", apart := false }
def NodeIsTaggedSaid : Prop := nodeIsTaggedRow.holds Try.pinned (OpenSpec.ofChange nodeIsTaggedSpec)

/-- ITS FALSE NEIGHBOUR: 'it returns false'. Refute it at one input. -/
def nodeIsTaggedWrong : ChangeSpec := { name := "nodeIsTagged", fn := fun _ => fun
  | [d] => { results := [.lit (.bool false)], args := [d] }
  | _ => none }
def NodeIsTaggedWrongFalsely : Prop := nodeIsTaggedRow.holds Try.pinned (OpenSpec.ofChange nodeIsTaggedWrong)

/-- 'digestlaw.HexRoundTrip': WHATEVER THE INPUT: true; the input reads as it did. -/
def hexRoundTripSpec : ChangeSpec := { name := "hexRoundTrip", fn := fun _ => fun
  | [d] => { results := [.lit (.bool true)], args := [d] }
  | _ => none }
def hexRoundTripRow : OpenClaim := { program := "qxb6500785a", sum := "11a5c9e495c4244755b39b0fc89576da0cab83fc35e2204708ef3b921e6a70cf", func := "e2e/digestlaw.HexRoundTrip", spec := "hexRoundTrip", apart := false }
def HexRoundTripSaid : Prop := hexRoundTripRow.holds Try.pinned (OpenSpec.ofChange hexRoundTripSpec)

/-- ITS FALSE NEIGHBOUR: 'it returns false'. Refute it at one input. -/
def hexRoundTripWrong : ChangeSpec := { name := "hexRoundTrip", fn := fun _ => fun
  | [d] => { results := [.lit (.bool false)], args := [d] }
  | _ => none }
def HexRoundTripWrongFalsely : Prop := hexRoundTripRow.holds Try.pinned (OpenSpec.ofChange hexRoundTripWrong)

/-- 'digestlaw.EmptyRootsAgree': WHATEVER THE INPUT: true; the input reads as it did. -/
def emptyRootsAgreeSpec : ChangeSpec := { name := "emptyRootsAgree", fn := fun _ => fun
  | [] => { results := [.lit (.bool true)], args := [] }
  | _ => none }
def emptyRootsAgreeRow : OpenClaim := { program := "qxb6500785a", sum := "11a5c9e495c4244755b39b0fc89576da0cab83fc35e2204708ef3b921e6a70cf", func := "e2e/digestlaw.EmptyRootsAgree", spec := "emptyRootsAgree", recurses := true, apart := false }
def EmptyRootsAgreeSaid : Prop := emptyRootsAgreeRow.holds Try.pinned (OpenSpec.ofChange emptyRootsAgreeSpec)

/-- ITS FALSE NEIGHBOUR: 'it returns false'. Refute it at one input. -/
def emptyRootsAgreeWrong : ChangeSpec := { name := "emptyRootsAgree", fn := fun _ => fun
  | [] => { results := [.lit (.bool false)], args := [] }
  | _ => none }
def EmptyRootsAgreeWrongFalsely : Prop := emptyRootsAgreeRow.holds Try.pinned (OpenSpec.ofChange emptyRootsAgreeWrong)

/-- 'digestlaw.KnownAnswers': WHATEVER THE INPUT: true; the input reads as it did. -/
def knownAnswersSpec : ChangeSpec := { name := "knownAnswers", fn := fun _ => fun
  | [] => { results := [.lit (.bool true)], args := [] }
  | _ => none }
def knownAnswersRow : OpenClaim := { program := "qxb6500785a", sum := "11a5c9e495c4244755b39b0fc89576da0cab83fc35e2204708ef3b921e6a70cf", func := "e2e/digestlaw.KnownAnswers", spec := "knownAnswers", apart := false }
def KnownAnswersSaid : Prop := knownAnswersRow.holds Try.pinned (OpenSpec.ofChange knownAnswersSpec)

/-- ITS FALSE NEIGHBOUR: 'it returns false'. Refute it at one input. -/
def knownAnswersWrong : ChangeSpec := { name := "knownAnswers", fn := fun _ => fun
  | [] => { results := [.lit (.bool false)], args := [] }
  | _ => none }
def KnownAnswersWrongFalsely : Prop := knownAnswersRow.holds Try.pinned (OpenSpec.ofChange knownAnswersWrong)

/-- 'digestlaw.ConstantsFromPrimes': WHATEVER THE INPUT: true; the input reads as it did. -/
def constantsFromPrimesSpec : ChangeSpec := { name := "constantsFromPrimes", fn := fun _ => fun
  | [] => { results := [.lit (.bool true)], args := [] }
  | _ => none }
def constantsFromPrimesRow : OpenClaim := { program := "qxb6500785a", sum := "11a5c9e495c4244755b39b0fc89576da0cab83fc35e2204708ef3b921e6a70cf", func := "e2e/digestlaw.ConstantsFromPrimes", spec := "constantsFromPrimes", apart := false }
def ConstantsFromPrimesSaid : Prop := constantsFromPrimesRow.holds Try.pinned (OpenSpec.ofChange constantsFromPrimesSpec)

/-- ITS FALSE NEIGHBOUR: 'it returns false'. Refute it at one input. -/
def constantsFromPrimesWrong : ChangeSpec := { name := "constantsFromPrimes", fn := fun _ => fun
  | [] => { results := [.lit (.bool false)], args := [] }
  | _ => none }
def ConstantsFromPrimesWrongFalsely : Prop := constantsFromPrimesRow.holds Try.pinned (OpenSpec.ofChange constantsFromPrimesWrong)

end Rows
end Go.Proofs.Qxb6500785a
