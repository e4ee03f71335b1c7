/-
  No cell of these rows narrows 'for every input' (looked for: loops, veiled, ifaces, maps, wideKeys, modest, calm, conditions, laid).
  DERIVED. THE GIVEN ROWS OF THIS SEAT. 12 by the template 'for every input the law returns true; each argument reads behind the call as it read before'; 0 by the template 'total and deterministic' (their statements: Qxb6500786aGreatTotals.lean).
  GIVEN WITH THE SEED: the statements are not yours to turn. If you find one false, say at which input.
  Laid BY PROGRAM, IN A SANDBOX (cutbox-rows.mjs): the forced cells as the released guide's own fill.sh prints them over the translation 10459fc4eb0f848e… (all of the seat's roots in one cut). By AI agents, Wed Nov 11 2026. No macro, syntax, notation, axiom, sorry.
-/
import Derived.Test.Qxb6500786aGreatChecked
import GoSem.Claim
import GoSem.ClaimJoined
import GoSem.ClaimMapViews
import Derived.JoinedTies
import Derived.KernelRfl
namespace Go.Proofs.Qxb6500786aGreat
/- THE CELL 'sum', in the pinned program and in every row, IS THE sha256 OF THE DUMP (.gsa) THAT Qxb6500786aGreatProg.lean LOADS. Nothing in Lean hashes anything: it is a label: what it is worth is what the hold of that sum in a sandbox is worth. -/
noncomputable def Tryz.pinned : Pinned := { name := "qxb6500786agreat", sum := "10459fc4eb0f848e47bb258896fb44a90e2b9b674da6880c5de1bdca68d571c5", checked := Tryz.checked }
namespace Rows
def none {H : Type} : Left H := { results := [], args := [] }

/-- 'ledgerlaw.HelpersAgree': WHATEVER THE INPUT: true; the input reads as it did. -/
def helpersAgreeSpec : ChangeSpec := { name := "helpersAgree", fn := fun _ => fun
  | [d] => { results := [.lit (.bool true)], args := [d] }
  | _ => none }
def helpersAgreeRow : OpenClaim := { program := "qxb6500786agreat", sum := "10459fc4eb0f848e47bb258896fb44a90e2b9b674da6880c5de1bdca68d571c5", func := "e2e/ledgerlaw.HelpersAgree", spec := "helpersAgree", apart := false }
def HelpersAgreeSaid : Prop := helpersAgreeRow.holds Tryz.pinned (OpenSpec.ofChange helpersAgreeSpec)

/-- ITS FALSE NEIGHBOUR: 'it returns false'. Refute it at one input. -/
def helpersAgreeWrong : ChangeSpec := { name := "helpersAgree", fn := fun _ => fun
  | [d] => { results := [.lit (.bool false)], args := [d] }
  | _ => none }
def HelpersAgreeWrongFalsely : Prop := helpersAgreeRow.holds Tryz.pinned (OpenSpec.ofChange helpersAgreeWrong)

/-- 'ledgerlaw.ReplayAgrees': WHATEVER THE INPUT: true; the input reads as it did. -/
def replayAgreesSpec : ChangeSpec := { name := "replayAgrees", fn := fun _ => fun
  | [d] => { results := [.lit (.bool true)], args := [d] }
  | _ => none }
def replayAgreesRow : OpenClaim := { program := "qxb6500786agreat", sum := "10459fc4eb0f848e47bb258896fb44a90e2b9b674da6880c5de1bdca68d571c5", func := "e2e/ledgerlaw.ReplayAgrees", spec := "replayAgrees", apart := false }
def ReplayAgreesSaid : Prop := replayAgreesRow.holds Tryz.pinned (OpenSpec.ofChange replayAgreesSpec)

/-- ITS FALSE NEIGHBOUR: 'it returns false'. Refute it at one input. -/
def replayAgreesWrong : ChangeSpec := { name := "replayAgrees", fn := fun _ => fun
  | [d] => { results := [.lit (.bool false)], args := [d] }
  | _ => none }
def ReplayAgreesWrongFalsely : Prop := replayAgreesRow.holds Tryz.pinned (OpenSpec.ofChange replayAgreesWrong)

/-- 'ledgerlaw.RefinesModel': WHATEVER THE INPUT: true; the input reads as it did. -/
def refinesModelSpec : ChangeSpec := { name := "refinesModel", fn := fun _ => fun
  | [d] => { results := [.lit (.bool true)], args := [d] }
  | _ => none }
def refinesModelRow : OpenClaim := { program := "qxb6500786agreat", sum := "10459fc4eb0f848e47bb258896fb44a90e2b9b674da6880c5de1bdca68d571c5", func := "e2e/ledgerlaw.RefinesModel", spec := "refinesModel", recurses := true, apart := false }
def RefinesModelSaid : Prop := refinesModelRow.holds Tryz.pinned (OpenSpec.ofChange refinesModelSpec)

/-- ITS FALSE NEIGHBOUR: 'it returns false'. Refute it at one input. -/
def refinesModelWrong : ChangeSpec := { name := "refinesModel", fn := fun _ => fun
  | [d] => { results := [.lit (.bool false)], args := [d] }
  | _ => none }
def RefinesModelWrongFalsely : Prop := refinesModelRow.holds Tryz.pinned (OpenSpec.ofChange refinesModelWrong)

/-- 'ledgerlaw.RefusalChangesNothing': WHATEVER THE INPUT: true; the input reads as it did. -/
def refusalChangesNothingSpec : ChangeSpec := { name := "refusalChangesNothing", fn := fun _ => fun
  | [d] => { results := [.lit (.bool true)], args := [d] }
  | _ => none }
def refusalChangesNothingRow : OpenClaim := { program := "qxb6500786agreat", sum := "10459fc4eb0f848e47bb258896fb44a90e2b9b674da6880c5de1bdca68d571c5", func := "e2e/ledgerlaw.RefusalChangesNothing", spec := "refusalChangesNothing", apart := false }
def RefusalChangesNothingSaid : Prop := refusalChangesNothingRow.holds Tryz.pinned (OpenSpec.ofChange refusalChangesNothingSpec)

/-- ITS FALSE NEIGHBOUR: 'it returns false'. Refute it at one input. -/
def refusalChangesNothingWrong : ChangeSpec := { name := "refusalChangesNothing", fn := fun _ => fun
  | [d] => { results := [.lit (.bool false)], args := [d] }
  | _ => none }
def RefusalChangesNothingWrongFalsely : Prop := refusalChangesNothingRow.holds Tryz.pinned (OpenSpec.ofChange refusalChangesNothingWrong)

/-- 'ledgerlaw.ReplayGivesSameRoot': WHATEVER THE INPUT: true; the input reads as it did. -/
def replayGivesSameRootSpec : ChangeSpec := { name := "replayGivesSameRoot", fn := fun _ => fun
  | [d] => { results := [.lit (.bool true)], args := [d] }
  | _ => none }
def replayGivesSameRootRow : OpenClaim := { program := "qxb6500786agreat", sum := "10459fc4eb0f848e47bb258896fb44a90e2b9b674da6880c5de1bdca68d571c5", func := "e2e/ledgerlaw.ReplayGivesSameRoot", spec := "replayGivesSameRoot", apart := false }
def ReplayGivesSameRootSaid : Prop := replayGivesSameRootRow.holds Tryz.pinned (OpenSpec.ofChange replayGivesSameRootSpec)

/-- ITS FALSE NEIGHBOUR: 'it returns false'. Refute it at one input. -/
def replayGivesSameRootWrong : ChangeSpec := { name := "replayGivesSameRoot", fn := fun _ => fun
  | [d] => { results := [.lit (.bool false)], args := [d] }
  | _ => none }
def ReplayGivesSameRootWrongFalsely : Prop := replayGivesSameRootRow.holds Tryz.pinned (OpenSpec.ofChange replayGivesSameRootWrong)

/-- 'ledgerlaw.MintOnlyFromBurn': WHATEVER THE INPUT: true; the input reads as it did. -/
def mintOnlyFromBurnSpec : ChangeSpec := { name := "mintOnlyFromBurn", fn := fun _ => fun
  | [d] => { results := [.lit (.bool true)], args := [d] }
  | _ => none }
def mintOnlyFromBurnRow : OpenClaim := { program := "qxb6500786agreat", sum := "10459fc4eb0f848e47bb258896fb44a90e2b9b674da6880c5de1bdca68d571c5", func := "e2e/ledgerlaw.MintOnlyFromBurn", spec := "mintOnlyFromBurn", apart := false }
def MintOnlyFromBurnSaid : Prop := mintOnlyFromBurnRow.holds Tryz.pinned (OpenSpec.ofChange mintOnlyFromBurnSpec)

/-- ITS FALSE NEIGHBOUR: 'it returns false'. Refute it at one input. -/
def mintOnlyFromBurnWrong : ChangeSpec := { name := "mintOnlyFromBurn", fn := fun _ => fun
  | [d] => { results := [.lit (.bool false)], args := [d] }
  | _ => none }
def MintOnlyFromBurnWrongFalsely : Prop := mintOnlyFromBurnRow.holds Tryz.pinned (OpenSpec.ofChange mintOnlyFromBurnWrong)

/-- 'ledgerlaw.RevertRestores': WHATEVER THE INPUT: true; the input reads as it did. -/
def revertRestoresSpec : ChangeSpec := { name := "revertRestores", fn := fun _ => fun
  | [d] => { results := [.lit (.bool true)], args := [d] }
  | _ => none }
def revertRestoresRow : OpenClaim := { program := "qxb6500786agreat", sum := "10459fc4eb0f848e47bb258896fb44a90e2b9b674da6880c5de1bdca68d571c5", func := "e2e/ledgerlaw.RevertRestores", spec := "revertRestores", apart := false }
def RevertRestoresSaid : Prop := revertRestoresRow.holds Tryz.pinned (OpenSpec.ofChange revertRestoresSpec)

/-- ITS FALSE NEIGHBOUR: 'it returns false'. Refute it at one input. -/
def revertRestoresWrong : ChangeSpec := { name := "revertRestores", fn := fun _ => fun
  | [d] => { results := [.lit (.bool false)], args := [d] }
  | _ => none }
def RevertRestoresWrongFalsely : Prop := revertRestoresRow.holds Tryz.pinned (OpenSpec.ofChange revertRestoresWrong)

/-- 'ledgerlaw.CheckForetells': WHATEVER THE INPUT: true; the input reads as it did. -/
def checkForetellsSpec : ChangeSpec := { name := "checkForetells", fn := fun _ => fun
  | [d] => { results := [.lit (.bool true)], args := [d] }
  | _ => none }
def checkForetellsRow : OpenClaim := { program := "qxb6500786agreat", sum := "10459fc4eb0f848e47bb258896fb44a90e2b9b674da6880c5de1bdca68d571c5", func := "e2e/ledgerlaw.CheckForetells", spec := "checkForetells", apart := false }
def CheckForetellsSaid : Prop := checkForetellsRow.holds Tryz.pinned (OpenSpec.ofChange checkForetellsSpec)

/-- ITS FALSE NEIGHBOUR: 'it returns false'. Refute it at one input. -/
def checkForetellsWrong : ChangeSpec := { name := "checkForetells", fn := fun _ => fun
  | [d] => { results := [.lit (.bool false)], args := [d] }
  | _ => none }
def CheckForetellsWrongFalsely : Prop := checkForetellsRow.holds Tryz.pinned (OpenSpec.ofChange checkForetellsWrong)

/-- 'ledgerlaw.AuditAlwaysPasses': WHATEVER THE INPUT: true; the input reads as it did. -/
def auditAlwaysPassesSpec : ChangeSpec := { name := "auditAlwaysPasses", fn := fun _ => fun
  | [d] => { results := [.lit (.bool true)], args := [d] }
  | _ => none }
def auditAlwaysPassesRow : OpenClaim := { program := "qxb6500786agreat", sum := "10459fc4eb0f848e47bb258896fb44a90e2b9b674da6880c5de1bdca68d571c5", func := "e2e/ledgerlaw.AuditAlwaysPasses", spec := "auditAlwaysPasses", apart := false }
def AuditAlwaysPassesSaid : Prop := auditAlwaysPassesRow.holds Tryz.pinned (OpenSpec.ofChange auditAlwaysPassesSpec)

/-- ITS FALSE NEIGHBOUR: 'it returns false'. Refute it at one input. -/
def auditAlwaysPassesWrong : ChangeSpec := { name := "auditAlwaysPasses", fn := fun _ => fun
  | [d] => { results := [.lit (.bool false)], args := [d] }
  | _ => none }
def AuditAlwaysPassesWrongFalsely : Prop := auditAlwaysPassesRow.holds Tryz.pinned (OpenSpec.ofChange auditAlwaysPassesWrong)

/-- 'ledgerlaw.PreflightIsSound': WHATEVER THE INPUT: true; the input reads as it did. -/
def preflightIsSoundSpec : ChangeSpec := { name := "preflightIsSound", fn := fun _ => fun
  | [d] => { results := [.lit (.bool true)], args := [d] }
  | _ => none }
def preflightIsSoundRow : OpenClaim := { program := "qxb6500786agreat", sum := "10459fc4eb0f848e47bb258896fb44a90e2b9b674da6880c5de1bdca68d571c5", func := "e2e/ledgerlaw.PreflightIsSound", spec := "preflightIsSound", apart := false }
def PreflightIsSoundSaid : Prop := preflightIsSoundRow.holds Tryz.pinned (OpenSpec.ofChange preflightIsSoundSpec)

/-- ITS FALSE NEIGHBOUR: 'it returns false'. Refute it at one input. -/
def preflightIsSoundWrong : ChangeSpec := { name := "preflightIsSound", fn := fun _ => fun
  | [d] => { results := [.lit (.bool false)], args := [d] }
  | _ => none }
def PreflightIsSoundWrongFalsely : Prop := preflightIsSoundRow.holds Tryz.pinned (OpenSpec.ofChange preflightIsSoundWrong)

/-- 'ledgerlaw.MessagesSound': WHATEVER THE INPUT: true; the input reads as it did. -/
def messagesSoundSpec : ChangeSpec := { name := "messagesSound", fn := fun _ => fun
  | [d] => { results := [.lit (.bool true)], args := [d] }
  | _ => none }
def messagesSoundRow : OpenClaim := { program := "qxb6500786agreat", sum := "10459fc4eb0f848e47bb258896fb44a90e2b9b674da6880c5de1bdca68d571c5", func := "e2e/ledgerlaw.MessagesSound", spec := "messagesSound", apart := false }
def MessagesSoundSaid : Prop := messagesSoundRow.holds Tryz.pinned (OpenSpec.ofChange messagesSoundSpec)

/-- ITS FALSE NEIGHBOUR: 'it returns false'. Refute it at one input. -/
def messagesSoundWrong : ChangeSpec := { name := "messagesSound", fn := fun _ => fun
  | [d] => { results := [.lit (.bool false)], args := [d] }
  | _ => none }
def MessagesSoundWrongFalsely : Prop := messagesSoundRow.holds Tryz.pinned (OpenSpec.ofChange messagesSoundWrong)

/-- 'ledgerlaw.DumpRoundTrip': WHATEVER THE INPUT: true; the input reads as it did. -/
def dumpRoundTripSpec : ChangeSpec := { name := "dumpRoundTrip", fn := fun _ => fun
  | [d] => { results := [.lit (.bool true)], args := [d] }
  | _ => none }
def dumpRoundTripRow : OpenClaim := { program := "qxb6500786agreat", sum := "10459fc4eb0f848e47bb258896fb44a90e2b9b674da6880c5de1bdca68d571c5", func := "e2e/ledgerlaw.DumpRoundTrip", spec := "dumpRoundTrip", apart := false }
def DumpRoundTripSaid : Prop := dumpRoundTripRow.holds Tryz.pinned (OpenSpec.ofChange dumpRoundTripSpec)

/-- ITS FALSE NEIGHBOUR: 'it returns false'. Refute it at one input. -/
def dumpRoundTripWrong : ChangeSpec := { name := "dumpRoundTrip", fn := fun _ => fun
  | [d] => { results := [.lit (.bool false)], args := [d] }
  | _ => none }
def DumpRoundTripWrongFalsely : Prop := dumpRoundTripRow.holds Tryz.pinned (OpenSpec.ofChange dumpRoundTripWrong)

end Rows
end Go.Proofs.Qxb6500786aGreat
