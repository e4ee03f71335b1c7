/-
  No cell of these rows narrows 'for every input' (looked for: loops, veiled, ifaces, maps, wideKeys, modest, calm, conditions, laid).
  DERIVED. THE GIVEN ROWS OF THIS SEAT. 8 by the template 'for every input the law returns true; each argument reads behind the call as it read before'; 0 by the template 'total and deterministic' (their statements: Qxb6500787aTotals.lean).
  GIVEN WITH THE SEED: the statements are not yours to turn. If you find one false, say at which input.
  Laid BY PROGRAM, IN A SANDBOX (cutbox-rows.mjs): the forced cells as the released guide's own fill.sh prints them over the translation 6c05555ca8295e3c… (all of the seat's roots in one cut). By AI agents, Wed Nov 11 2026. No macro, syntax, notation, axiom, sorry.
-/
import Derived.Test.Qxb6500787aChecked
import GoSem.Claim
import GoSem.ClaimJoined
import GoSem.ClaimMapViews
import Derived.JoinedTies
import Derived.KernelRfl
namespace Go.Proofs.Qxb6500787a
/- THE CELL 'sum', in the pinned program and in every row, IS THE sha256 OF THE DUMP (.gsa) THAT Qxb6500787aProg.lean LOADS. Nothing in Lean hashes anything: it is a label: what it is worth is what the hold of that sum in a sandbox is worth. -/
noncomputable def Try.pinned : Pinned := { name := "qxb6500787a", sum := "6c05555ca8295e3c2233c1da0f6a1e3816352765fad4a11d10affee7c8f2c395", checked := Try.checked }
namespace Rows
def none {H : Type} : Left H := { results := [], args := [] }

/-- 'authzlaw.DecodingIsTotal': WHATEVER THE INPUT: true; the input reads as it did. -/
def decodingIsTotalSpec : ChangeSpec := { name := "decodingIsTotal", fn := fun _ => fun
  | [d] => { results := [.lit (.bool true)], args := [d] }
  | _ => none }
def decodingIsTotalRow : OpenClaim := { program := "qxb6500787a", sum := "6c05555ca8295e3c2233c1da0f6a1e3816352765fad4a11d10affee7c8f2c395", func := "e2e/authzlaw.DecodingIsTotal", spec := "decodingIsTotal", apart := false }
def DecodingIsTotalSaid : Prop := decodingIsTotalRow.holds Try.pinned (OpenSpec.ofChange decodingIsTotalSpec)

/-- ITS FALSE NEIGHBOUR: 'it returns false'. Refute it at one input. -/
def decodingIsTotalWrong : ChangeSpec := { name := "decodingIsTotal", fn := fun _ => fun
  | [d] => { results := [.lit (.bool false)], args := [d] }
  | _ => none }
def DecodingIsTotalWrongFalsely : Prop := decodingIsTotalRow.holds Try.pinned (OpenSpec.ofChange decodingIsTotalWrong)

/-- 'authzlaw.EachKindOneLowerOperation': WHATEVER THE INPUT: true; the input reads as it did. -/
def eachKindOneLowerOperationSpec : ChangeSpec := { name := "eachKindOneLowerOperation", fn := fun _ => fun
  | [d] => { results := [.lit (.bool true)], args := [d] }
  | _ => none }
def eachKindOneLowerOperationRow : OpenClaim := { program := "qxb6500787a", sum := "6c05555ca8295e3c2233c1da0f6a1e3816352765fad4a11d10affee7c8f2c395", func := "e2e/authzlaw.EachKindOneLowerOperation", spec := "eachKindOneLowerOperation", recurses := true, apart := false }
def EachKindOneLowerOperationSaid : Prop := eachKindOneLowerOperationRow.holds Try.pinned (OpenSpec.ofChange eachKindOneLowerOperationSpec)

/-- ITS FALSE NEIGHBOUR: 'it returns false'. Refute it at one input. -/
def eachKindOneLowerOperationWrong : ChangeSpec := { name := "eachKindOneLowerOperation", fn := fun _ => fun
  | [d] => { results := [.lit (.bool false)], args := [d] }
  | _ => none }
def EachKindOneLowerOperationWrongFalsely : Prop := eachKindOneLowerOperationRow.holds Try.pinned (OpenSpec.ofChange eachKindOneLowerOperationWrong)

/-- 'authzlaw.NoPolicyBeforeLoad': WHATEVER THE INPUT: true; the input reads as it did. -/
def noPolicyBeforeLoadSpec : ChangeSpec := { name := "noPolicyBeforeLoad", fn := fun _ => fun
  | [d] => { results := [.lit (.bool true)], args := [d] }
  | _ => none }
def noPolicyBeforeLoadRow : OpenClaim := { program := "qxb6500787a", sum := "6c05555ca8295e3c2233c1da0f6a1e3816352765fad4a11d10affee7c8f2c395", func := "e2e/authzlaw.NoPolicyBeforeLoad", spec := "noPolicyBeforeLoad", recurses := true, apart := false }
def NoPolicyBeforeLoadSaid : Prop := noPolicyBeforeLoadRow.holds Try.pinned (OpenSpec.ofChange noPolicyBeforeLoadSpec)

/-- ITS FALSE NEIGHBOUR: 'it returns false'. Refute it at one input. -/
def noPolicyBeforeLoadWrong : ChangeSpec := { name := "noPolicyBeforeLoad", fn := fun _ => fun
  | [d] => { results := [.lit (.bool false)], args := [d] }
  | _ => none }
def NoPolicyBeforeLoadWrongFalsely : Prop := noPolicyBeforeLoadRow.holds Try.pinned (OpenSpec.ofChange noPolicyBeforeLoadWrong)

/-- 'authzlaw.RepliesDecode': WHATEVER THE INPUT: true; the input reads as it did. -/
def repliesDecodeSpec : ChangeSpec := { name := "repliesDecode", fn := fun _ => fun
  | [d] => { results := [.lit (.bool true)], args := [d] }
  | _ => none }
def repliesDecodeRow : OpenClaim := { program := "qxb6500787a", sum := "6c05555ca8295e3c2233c1da0f6a1e3816352765fad4a11d10affee7c8f2c395", func := "e2e/authzlaw.RepliesDecode", spec := "repliesDecode", recurses := true, apart := false }
def RepliesDecodeSaid : Prop := repliesDecodeRow.holds Try.pinned (OpenSpec.ofChange repliesDecodeSpec)

/-- ITS FALSE NEIGHBOUR: 'it returns false'. Refute it at one input. -/
def repliesDecodeWrong : ChangeSpec := { name := "repliesDecode", fn := fun _ => fun
  | [d] => { results := [.lit (.bool false)], args := [d] }
  | _ => none }
def RepliesDecodeWrongFalsely : Prop := repliesDecodeRow.holds Try.pinned (OpenSpec.ofChange repliesDecodeWrong)

/-- 'authzlaw.AuditKeepsTheLast': WHATEVER THE INPUT: true; the input reads as it did. -/
def auditKeepsTheLastSpec : ChangeSpec := { name := "auditKeepsTheLast", fn := fun _ => fun
  | [d] => { results := [.lit (.bool true)], args := [d] }
  | _ => none }
def auditKeepsTheLastRow : OpenClaim := { program := "qxb6500787a", sum := "6c05555ca8295e3c2233c1da0f6a1e3816352765fad4a11d10affee7c8f2c395", func := "e2e/authzlaw.AuditKeepsTheLast", spec := "auditKeepsTheLast", recurses := true, apart := false }
def AuditKeepsTheLastSaid : Prop := auditKeepsTheLastRow.holds Try.pinned (OpenSpec.ofChange auditKeepsTheLastSpec)

/-- ITS FALSE NEIGHBOUR: 'it returns false'. Refute it at one input. -/
def auditKeepsTheLastWrong : ChangeSpec := { name := "auditKeepsTheLast", fn := fun _ => fun
  | [d] => { results := [.lit (.bool false)], args := [d] }
  | _ => none }
def AuditKeepsTheLastWrongFalsely : Prop := auditKeepsTheLastRow.holds Try.pinned (OpenSpec.ofChange auditKeepsTheLastWrong)

/-- 'authzlaw.SessionsServeFrames': WHATEVER THE INPUT: true; the input reads as it did. -/
def sessionsServeFramesSpec : ChangeSpec := { name := "sessionsServeFrames", fn := fun _ => fun
  | [d] => { results := [.lit (.bool true)], args := [d] }
  | _ => none }
def sessionsServeFramesRow : OpenClaim := { program := "qxb6500787a", sum := "6c05555ca8295e3c2233c1da0f6a1e3816352765fad4a11d10affee7c8f2c395", func := "e2e/authzlaw.SessionsServeFrames", spec := "sessionsServeFrames", recurses := true, apart := false }
def SessionsServeFramesSaid : Prop := sessionsServeFramesRow.holds Try.pinned (OpenSpec.ofChange sessionsServeFramesSpec)

/-- ITS FALSE NEIGHBOUR: 'it returns false'. Refute it at one input. -/
def sessionsServeFramesWrong : ChangeSpec := { name := "sessionsServeFrames", fn := fun _ => fun
  | [d] => { results := [.lit (.bool false)], args := [d] }
  | _ => none }
def SessionsServeFramesWrongFalsely : Prop := sessionsServeFramesRow.holds Try.pinned (OpenSpec.ofChange sessionsServeFramesWrong)

/-- 'authzlaw.SelfCheckHolds': WHATEVER THE INPUT: true; the input reads as it did. -/
def selfCheckHoldsSpec : ChangeSpec := { name := "selfCheckHolds", fn := fun _ => fun
  | [d] => { results := [.lit (.bool true)], args := [d] }
  | _ => none }
def selfCheckHoldsRow : OpenClaim := { program := "qxb6500787a", sum := "6c05555ca8295e3c2233c1da0f6a1e3816352765fad4a11d10affee7c8f2c395", func := "e2e/authzlaw.SelfCheckHolds", spec := "selfCheckHolds", recurses := true, apart := false }
def SelfCheckHoldsSaid : Prop := selfCheckHoldsRow.holds Try.pinned (OpenSpec.ofChange selfCheckHoldsSpec)

/-- ITS FALSE NEIGHBOUR: 'it returns false'. Refute it at one input. -/
def selfCheckHoldsWrong : ChangeSpec := { name := "selfCheckHolds", fn := fun _ => fun
  | [d] => { results := [.lit (.bool false)], args := [d] }
  | _ => none }
def SelfCheckHoldsWrongFalsely : Prop := selfCheckHoldsRow.holds Try.pinned (OpenSpec.ofChange selfCheckHoldsWrong)

/-- 'authzlaw.NamesDiffer': WHATEVER THE INPUT: true; the input reads as it did. -/
def namesDifferSpec : ChangeSpec := { name := "namesDiffer", fn := fun _ => fun
  | [] => { results := [.lit (.bool true)], args := [] }
  | _ => none }
def namesDifferRow : OpenClaim := { program := "qxb6500787a", sum := "6c05555ca8295e3c2233c1da0f6a1e3816352765fad4a11d10affee7c8f2c395", func := "e2e/authzlaw.NamesDiffer", spec := "namesDiffer", apart := false }
def NamesDifferSaid : Prop := namesDifferRow.holds Try.pinned (OpenSpec.ofChange namesDifferSpec)

/-- ITS FALSE NEIGHBOUR: 'it returns false'. Refute it at one input. -/
def namesDifferWrong : ChangeSpec := { name := "namesDiffer", fn := fun _ => fun
  | [] => { results := [.lit (.bool false)], args := [] }
  | _ => none }
def NamesDifferWrongFalsely : Prop := namesDifferRow.holds Try.pinned (OpenSpec.ofChange namesDifferWrong)

end Rows
end Go.Proofs.Qxb6500787a
