/-
  No cell of these rows narrows 'for every input' (looked for: loops, veiled, ifaces, maps, wideKeys, modest, calm, conditions, laid).
  DERIVED. THE GIVEN ROWS OF THIS SEAT. 22 by the template 'for every input the law returns true; each argument reads behind the call as it read before'; 0 by the template 'total and deterministic' (their statements: YtiacfkilmknldaaTotals.lean).
  GIVEN WITH THE SEED: the statements are not yours to turn. If you find one false, say at which input.
  Laid BY PROGRAM, IN A SANDBOX (cutbox-rows.mjs): the forced cells as the released guide's own fill.sh prints them over the translation ae1751a6fd980aeb… (all of the seat's roots in one cut). By AI agents, Wed Nov 11 2026. No macro, syntax, notation, axiom, sorry.
-/
import Derived.Test.YtiacfkilmknldaaChecked
import GoSem.Claim
import GoSem.ClaimJoined
import GoSem.ClaimMapViews
import Derived.JoinedTies
import Derived.KernelRfl
namespace Go.Proofs.Ytiacfkilmknldaa
/- THE CELL 'sum', in the pinned program and in every row, IS THE sha256 OF THE DUMP (.gsa) THAT YtiacfkilmknldaaProg.lean LOADS. Nothing in Lean hashes anything: it is a label: what it is worth is what the hold of that sum in a sandbox is worth. -/
noncomputable def Try.pinned : Pinned := { name := "ytiacfkilmknldaa", sum := "ae1751a6fd980aebb8051f1abf2239613462e7d5b191b7990d95919f42cc5c05", checked := Try.checked }
namespace Rows
def none {H : Type} : Left H := { results := [], args := [] }

/-- 'laws.FnExactIsConvex': WHATEVER THE INPUT: true; the input reads as it did. -/
def fnExactIsConvexSpec : ChangeSpec := { name := "fnExactIsConvex", fn := fun _ => fun
  | [d] => { results := [.lit (.bool true)], args := [d] }
  | _ => none }
def fnExactIsConvexRow : OpenClaim := { program := "ytiacfkilmknldaa", sum := "ae1751a6fd980aebb8051f1abf2239613462e7d5b191b7990d95919f42cc5c05", func := "loop.example/g01259/laws.FnExactIsConvex", spec := "fnExactIsConvex", unfollowed := true, recurses := true, apart := false }
def FnExactIsConvexSaid : Prop := fnExactIsConvexRow.holds Try.pinned (OpenSpec.ofChange fnExactIsConvexSpec)

/-- ITS FALSE NEIGHBOUR: 'it returns false'. Refute it at one input. -/
def fnExactIsConvexWrong : ChangeSpec := { name := "fnExactIsConvex", fn := fun _ => fun
  | [d] => { results := [.lit (.bool false)], args := [d] }
  | _ => none }
def FnExactIsConvexWrongFalsely : Prop := fnExactIsConvexRow.holds Try.pinned (OpenSpec.ofChange fnExactIsConvexWrong)

/-- 'laws.FnExactWhereIs': WHATEVER THE INPUT: true; the input reads as it did. -/
def fnExactWhereIsSpec : ChangeSpec := { name := "fnExactWhereIs", fn := fun _ => fun
  | [d1, d2] => { results := [.lit (.bool true)], args := [d1, d2] }
  | _ => none }
def fnExactWhereIsRow : OpenClaim := { program := "ytiacfkilmknldaa", sum := "ae1751a6fd980aebb8051f1abf2239613462e7d5b191b7990d95919f42cc5c05", func := "loop.example/g01259/laws.FnExactWhereIs", spec := "fnExactWhereIs", unfollowed := true, recurses := true, apart := false }
def FnExactWhereIsSaid : Prop := fnExactWhereIsRow.holds Try.pinned (OpenSpec.ofChange fnExactWhereIsSpec)

/-- ITS FALSE NEIGHBOUR: 'it returns false'. Refute it at one input. -/
def fnExactWhereIsWrong : ChangeSpec := { name := "fnExactWhereIs", fn := fun _ => fun
  | [d1, d2] => { results := [.lit (.bool false)], args := [d1, d2] }
  | _ => none }
def FnExactWhereIsWrongFalsely : Prop := fnExactWhereIsRow.holds Try.pinned (OpenSpec.ofChange fnExactWhereIsWrong)

/-- 'laws.FnExactBackPolygon': WHATEVER THE INPUT: true; the input reads as it did. -/
def fnExactBackPolygonSpec : ChangeSpec := { name := "fnExactBackPolygon", fn := fun _ => fun
  | [d] => { results := [.lit (.bool true)], args := [d] }
  | _ => none }
def fnExactBackPolygonRow : OpenClaim := { program := "ytiacfkilmknldaa", sum := "ae1751a6fd980aebb8051f1abf2239613462e7d5b191b7990d95919f42cc5c05", func := "loop.example/g01259/laws.FnExactBackPolygon", spec := "fnExactBackPolygon", unfollowed := true, recurses := true, apart := false }
def FnExactBackPolygonSaid : Prop := fnExactBackPolygonRow.holds Try.pinned (OpenSpec.ofChange fnExactBackPolygonSpec)

/-- ITS FALSE NEIGHBOUR: 'it returns false'. Refute it at one input. -/
def fnExactBackPolygonWrong : ChangeSpec := { name := "fnExactBackPolygon", fn := fun _ => fun
  | [d] => { results := [.lit (.bool false)], args := [d] }
  | _ => none }
def FnExactBackPolygonWrongFalsely : Prop := fnExactBackPolygonRow.holds Try.pinned (OpenSpec.ofChange fnExactBackPolygonWrong)

/-- 'laws.FnExactPegsOn': WHATEVER THE INPUT: true; the input reads as it did. -/
def fnExactPegsOnSpec : ChangeSpec := { name := "fnExactPegsOn", fn := fun _ => fun
  | [d] => { results := [.lit (.bool true)], args := [d] }
  | _ => none }
def fnExactPegsOnRow : OpenClaim := { program := "ytiacfkilmknldaa", sum := "ae1751a6fd980aebb8051f1abf2239613462e7d5b191b7990d95919f42cc5c05", func := "loop.example/g01259/laws.FnExactPegsOn", spec := "fnExactPegsOn", unfollowed := true, recurses := true, apart := false }
def FnExactPegsOnSaid : Prop := fnExactPegsOnRow.holds Try.pinned (OpenSpec.ofChange fnExactPegsOnSpec)

/-- ITS FALSE NEIGHBOUR: 'it returns false'. Refute it at one input. -/
def fnExactPegsOnWrong : ChangeSpec := { name := "fnExactPegsOn", fn := fun _ => fun
  | [d] => { results := [.lit (.bool false)], args := [d] }
  | _ => none }
def FnExactPegsOnWrongFalsely : Prop := fnExactPegsOnRow.holds Try.pinned (OpenSpec.ofChange fnExactPegsOnWrong)

/-- 'laws.FnExactMiddleThree': WHATEVER THE INPUT: true; the input reads as it did. -/
def fnExactMiddleThreeSpec : ChangeSpec := { name := "fnExactMiddleThree", fn := fun _ => fun
  | [d] => { results := [.lit (.bool true)], args := [d] }
  | _ => none }
def fnExactMiddleThreeRow : OpenClaim := { program := "ytiacfkilmknldaa", sum := "ae1751a6fd980aebb8051f1abf2239613462e7d5b191b7990d95919f42cc5c05", func := "loop.example/g01259/laws.FnExactMiddleThree", spec := "fnExactMiddleThree", unfollowed := true, recurses := true, apart := false }
def FnExactMiddleThreeSaid : Prop := fnExactMiddleThreeRow.holds Try.pinned (OpenSpec.ofChange fnExactMiddleThreeSpec)

/-- ITS FALSE NEIGHBOUR: 'it returns false'. Refute it at one input. -/
def fnExactMiddleThreeWrong : ChangeSpec := { name := "fnExactMiddleThree", fn := fun _ => fun
  | [d] => { results := [.lit (.bool false)], args := [d] }
  | _ => none }
def FnExactMiddleThreeWrongFalsely : Prop := fnExactMiddleThreeRow.holds Try.pinned (OpenSpec.ofChange fnExactMiddleThreeWrong)

/-- 'laws.FnExactMirrorPolygon': WHATEVER THE INPUT: true; the input reads as it did. -/
def fnExactMirrorPolygonSpec : ChangeSpec := { name := "fnExactMirrorPolygon", fn := fun _ => fun
  | [d] => { results := [.lit (.bool true)], args := [d] }
  | _ => none }
def fnExactMirrorPolygonRow : OpenClaim := { program := "ytiacfkilmknldaa", sum := "ae1751a6fd980aebb8051f1abf2239613462e7d5b191b7990d95919f42cc5c05", func := "loop.example/g01259/laws.FnExactMirrorPolygon", spec := "fnExactMirrorPolygon", unfollowed := true, recurses := true, apart := false }
def FnExactMirrorPolygonSaid : Prop := fnExactMirrorPolygonRow.holds Try.pinned (OpenSpec.ofChange fnExactMirrorPolygonSpec)

/-- ITS FALSE NEIGHBOUR: 'it returns false'. Refute it at one input. -/
def fnExactMirrorPolygonWrong : ChangeSpec := { name := "fnExactMirrorPolygon", fn := fun _ => fun
  | [d] => { results := [.lit (.bool false)], args := [d] }
  | _ => none }
def FnExactMirrorPolygonWrongFalsely : Prop := fnExactMirrorPolygonRow.holds Try.pinned (OpenSpec.ofChange fnExactMirrorPolygonWrong)

/-- 'laws.FnExactTurnPolygon': WHATEVER THE INPUT: true; the input reads as it did. -/
def fnExactTurnPolygonSpec : ChangeSpec := { name := "fnExactTurnPolygon", fn := fun _ => fun
  | [d] => { results := [.lit (.bool true)], args := [d] }
  | _ => none }
def fnExactTurnPolygonRow : OpenClaim := { program := "ytiacfkilmknldaa", sum := "ae1751a6fd980aebb8051f1abf2239613462e7d5b191b7990d95919f42cc5c05", func := "loop.example/g01259/laws.FnExactTurnPolygon", spec := "fnExactTurnPolygon", unfollowed := true, recurses := true, apart := false }
def FnExactTurnPolygonSaid : Prop := fnExactTurnPolygonRow.holds Try.pinned (OpenSpec.ofChange fnExactTurnPolygonSpec)

/-- ITS FALSE NEIGHBOUR: 'it returns false'. Refute it at one input. -/
def fnExactTurnPolygonWrong : ChangeSpec := { name := "fnExactTurnPolygon", fn := fun _ => fun
  | [d] => { results := [.lit (.bool false)], args := [d] }
  | _ => none }
def FnExactTurnPolygonWrongFalsely : Prop := fnExactTurnPolygonRow.holds Try.pinned (OpenSpec.ofChange fnExactTurnPolygonWrong)

/-- 'laws.FnExactPartsOfPeg': WHATEVER THE INPUT: true; the input reads as it did. -/
def fnExactPartsOfPegSpec : ChangeSpec := { name := "fnExactPartsOfPeg", fn := fun _ => fun
  | [d1, d2] => { results := [.lit (.bool true)], args := [d1, d2] }
  | _ => none }
def fnExactPartsOfPegRow : OpenClaim := { program := "ytiacfkilmknldaa", sum := "ae1751a6fd980aebb8051f1abf2239613462e7d5b191b7990d95919f42cc5c05", func := "loop.example/g01259/laws.FnExactPartsOfPeg", spec := "fnExactPartsOfPeg", unfollowed := true, recurses := true, apart := false }
def FnExactPartsOfPegSaid : Prop := fnExactPartsOfPegRow.holds Try.pinned (OpenSpec.ofChange fnExactPartsOfPegSpec)

/-- ITS FALSE NEIGHBOUR: 'it returns false'. Refute it at one input. -/
def fnExactPartsOfPegWrong : ChangeSpec := { name := "fnExactPartsOfPeg", fn := fun _ => fun
  | [d1, d2] => { results := [.lit (.bool false)], args := [d1, d2] }
  | _ => none }
def FnExactPartsOfPegWrongFalsely : Prop := fnExactPartsOfPegRow.holds Try.pinned (OpenSpec.ofChange fnExactPartsOfPegWrong)

/-- 'laws.FnExactSidesOfThree': WHATEVER THE INPUT: true; the input reads as it did. -/
def fnExactSidesOfThreeSpec : ChangeSpec := { name := "fnExactSidesOfThree", fn := fun _ => fun
  | [d] => { results := [.lit (.bool true)], args := [d] }
  | _ => none }
def fnExactSidesOfThreeRow : OpenClaim := { program := "ytiacfkilmknldaa", sum := "ae1751a6fd980aebb8051f1abf2239613462e7d5b191b7990d95919f42cc5c05", func := "loop.example/g01259/laws.FnExactSidesOfThree", spec := "fnExactSidesOfThree", unfollowed := true, recurses := true, apart := false }
def FnExactSidesOfThreeSaid : Prop := fnExactSidesOfThreeRow.holds Try.pinned (OpenSpec.ofChange fnExactSidesOfThreeSpec)

/-- ITS FALSE NEIGHBOUR: 'it returns false'. Refute it at one input. -/
def fnExactSidesOfThreeWrong : ChangeSpec := { name := "fnExactSidesOfThree", fn := fun _ => fun
  | [d] => { results := [.lit (.bool false)], args := [d] }
  | _ => none }
def FnExactSidesOfThreeWrongFalsely : Prop := fnExactSidesOfThreeRow.holds Try.pinned (OpenSpec.ofChange fnExactSidesOfThreeWrong)

/-- 'laws.FnExactMovePolygon': WHATEVER THE INPUT: true; the input reads as it did. -/
def fnExactMovePolygonSpec : ChangeSpec := { name := "fnExactMovePolygon", fn := fun _ => fun
  | [d1, d2, d3] => { results := [.lit (.bool true)], args := [d1, d2, d3] }
  | _ => none }
def fnExactMovePolygonRow : OpenClaim := { program := "ytiacfkilmknldaa", sum := "ae1751a6fd980aebb8051f1abf2239613462e7d5b191b7990d95919f42cc5c05", func := "loop.example/g01259/laws.FnExactMovePolygon", spec := "fnExactMovePolygon", unfollowed := true, recurses := true, apart := false }
def FnExactMovePolygonSaid : Prop := fnExactMovePolygonRow.holds Try.pinned (OpenSpec.ofChange fnExactMovePolygonSpec)

/-- ITS FALSE NEIGHBOUR: 'it returns false'. Refute it at one input. -/
def fnExactMovePolygonWrong : ChangeSpec := { name := "fnExactMovePolygon", fn := fun _ => fun
  | [d1, d2, d3] => { results := [.lit (.bool false)], args := [d1, d2, d3] }
  | _ => none }
def FnExactMovePolygonWrongFalsely : Prop := fnExactMovePolygonRow.holds Try.pinned (OpenSpec.ofChange fnExactMovePolygonWrong)

/-- 'laws.FnExactCircleOfThree': WHATEVER THE INPUT: true; the input reads as it did. -/
def fnExactCircleOfThreeSpec : ChangeSpec := { name := "fnExactCircleOfThree", fn := fun _ => fun
  | [d] => { results := [.lit (.bool true)], args := [d] }
  | _ => none }
def fnExactCircleOfThreeRow : OpenClaim := { program := "ytiacfkilmknldaa", sum := "ae1751a6fd980aebb8051f1abf2239613462e7d5b191b7990d95919f42cc5c05", func := "loop.example/g01259/laws.FnExactCircleOfThree", spec := "fnExactCircleOfThree", unfollowed := true, recurses := true, apart := false }
def FnExactCircleOfThreeSaid : Prop := fnExactCircleOfThreeRow.holds Try.pinned (OpenSpec.ofChange fnExactCircleOfThreeSpec)

/-- ITS FALSE NEIGHBOUR: 'it returns false'. Refute it at one input. -/
def fnExactCircleOfThreeWrong : ChangeSpec := { name := "fnExactCircleOfThree", fn := fun _ => fun
  | [d] => { results := [.lit (.bool false)], args := [d] }
  | _ => none }
def FnExactCircleOfThreeWrongFalsely : Prop := fnExactCircleOfThreeRow.holds Try.pinned (OpenSpec.ofChange fnExactCircleOfThreeWrong)

/-- 'laws.FnExactGrowThree': WHATEVER THE INPUT: true; the input reads as it did. -/
def fnExactGrowThreeSpec : ChangeSpec := { name := "fnExactGrowThree", fn := fun _ => fun
  | [d1, d2] => { results := [.lit (.bool true)], args := [d1, d2] }
  | _ => none }
def fnExactGrowThreeRow : OpenClaim := { program := "ytiacfkilmknldaa", sum := "ae1751a6fd980aebb8051f1abf2239613462e7d5b191b7990d95919f42cc5c05", func := "loop.example/g01259/laws.FnExactGrowThree", spec := "fnExactGrowThree", unfollowed := true, recurses := true, apart := false }
def FnExactGrowThreeSaid : Prop := fnExactGrowThreeRow.holds Try.pinned (OpenSpec.ofChange fnExactGrowThreeSpec)

/-- ITS FALSE NEIGHBOUR: 'it returns false'. Refute it at one input. -/
def fnExactGrowThreeWrong : ChangeSpec := { name := "fnExactGrowThree", fn := fun _ => fun
  | [d1, d2] => { results := [.lit (.bool false)], args := [d1, d2] }
  | _ => none }
def FnExactGrowThreeWrongFalsely : Prop := fnExactGrowThreeRow.holds Try.pinned (OpenSpec.ofChange fnExactGrowThreeWrong)

/-- 'laws.FnExactInCircle': WHATEVER THE INPUT: true; the input reads as it did. -/
def fnExactInCircleSpec : ChangeSpec := { name := "fnExactInCircle", fn := fun _ => fun
  | [d1, d2] => { results := [.lit (.bool true)], args := [d1, d2] }
  | _ => none }
def fnExactInCircleRow : OpenClaim := { program := "ytiacfkilmknldaa", sum := "ae1751a6fd980aebb8051f1abf2239613462e7d5b191b7990d95919f42cc5c05", func := "loop.example/g01259/laws.FnExactInCircle", spec := "fnExactInCircle", unfollowed := true, recurses := true, apart := false }
def FnExactInCircleSaid : Prop := fnExactInCircleRow.holds Try.pinned (OpenSpec.ofChange fnExactInCircleSpec)

/-- ITS FALSE NEIGHBOUR: 'it returns false'. Refute it at one input. -/
def fnExactInCircleWrong : ChangeSpec := { name := "fnExactInCircle", fn := fun _ => fun
  | [d1, d2] => { results := [.lit (.bool false)], args := [d1, d2] }
  | _ => none }
def FnExactInCircleWrongFalsely : Prop := fnExactInCircleRow.holds Try.pinned (OpenSpec.ofChange fnExactInCircleWrong)

/-- 'laws.FnExactPegsInAll': WHATEVER THE INPUT: true; the input reads as it did. -/
def fnExactPegsInAllSpec : ChangeSpec := { name := "fnExactPegsInAll", fn := fun _ => fun
  | [d] => { results := [.lit (.bool true)], args := [d] }
  | _ => none }
def fnExactPegsInAllRow : OpenClaim := { program := "ytiacfkilmknldaa", sum := "ae1751a6fd980aebb8051f1abf2239613462e7d5b191b7990d95919f42cc5c05", func := "loop.example/g01259/laws.FnExactPegsInAll", spec := "fnExactPegsInAll", unfollowed := true, recurses := true, apart := false }
def FnExactPegsInAllSaid : Prop := fnExactPegsInAllRow.holds Try.pinned (OpenSpec.ofChange fnExactPegsInAllSpec)

/-- ITS FALSE NEIGHBOUR: 'it returns false'. Refute it at one input. -/
def fnExactPegsInAllWrong : ChangeSpec := { name := "fnExactPegsInAll", fn := fun _ => fun
  | [d] => { results := [.lit (.bool false)], args := [d] }
  | _ => none }
def FnExactPegsInAllWrongFalsely : Prop := fnExactPegsInAllRow.holds Try.pinned (OpenSpec.ofChange fnExactPegsInAllWrong)

/-- 'laws.FnExactPegsInside': WHATEVER THE INPUT: true; the input reads as it did. -/
def fnExactPegsInsideSpec : ChangeSpec := { name := "fnExactPegsInside", fn := fun _ => fun
  | [d] => { results := [.lit (.bool true)], args := [d] }
  | _ => none }
def fnExactPegsInsideRow : OpenClaim := { program := "ytiacfkilmknldaa", sum := "ae1751a6fd980aebb8051f1abf2239613462e7d5b191b7990d95919f42cc5c05", func := "loop.example/g01259/laws.FnExactPegsInside", spec := "fnExactPegsInside", unfollowed := true, recurses := true, apart := false }
def FnExactPegsInsideSaid : Prop := fnExactPegsInsideRow.holds Try.pinned (OpenSpec.ofChange fnExactPegsInsideSpec)

/-- ITS FALSE NEIGHBOUR: 'it returns false'. Refute it at one input. -/
def fnExactPegsInsideWrong : ChangeSpec := { name := "fnExactPegsInside", fn := fun _ => fun
  | [d] => { results := [.lit (.bool false)], args := [d] }
  | _ => none }
def FnExactPegsInsideWrongFalsely : Prop := fnExactPegsInsideRow.holds Try.pinned (OpenSpec.ofChange fnExactPegsInsideWrong)

/-- 'laws.FnExactPegsOfGrown': WHATEVER THE INPUT: true; the input reads as it did. -/
def fnExactPegsOfGrownSpec : ChangeSpec := { name := "fnExactPegsOfGrown", fn := fun _ => fun
  | [d1, d2] => { results := [.lit (.bool true)], args := [d1, d2] }
  | _ => none }
def fnExactPegsOfGrownRow : OpenClaim := { program := "ytiacfkilmknldaa", sum := "ae1751a6fd980aebb8051f1abf2239613462e7d5b191b7990d95919f42cc5c05", func := "loop.example/g01259/laws.FnExactPegsOfGrown", spec := "fnExactPegsOfGrown", unfollowed := true, recurses := true, apart := false }
def FnExactPegsOfGrownSaid : Prop := fnExactPegsOfGrownRow.holds Try.pinned (OpenSpec.ofChange fnExactPegsOfGrownSpec)

/-- ITS FALSE NEIGHBOUR: 'it returns false'. Refute it at one input. -/
def fnExactPegsOfGrownWrong : ChangeSpec := { name := "fnExactPegsOfGrown", fn := fun _ => fun
  | [d1, d2] => { results := [.lit (.bool false)], args := [d1, d2] }
  | _ => none }
def FnExactPegsOfGrownWrongFalsely : Prop := fnExactPegsOfGrownRow.holds Try.pinned (OpenSpec.ofChange fnExactPegsOfGrownWrong)

/-- 'laws.FnExactIsHollowThree': WHATEVER THE INPUT: true; the input reads as it did. -/
def fnExactIsHollowThreeSpec : ChangeSpec := { name := "fnExactIsHollowThree", fn := fun _ => fun
  | [d] => { results := [.lit (.bool true)], args := [d] }
  | _ => none }
def fnExactIsHollowThreeRow : OpenClaim := { program := "ytiacfkilmknldaa", sum := "ae1751a6fd980aebb8051f1abf2239613462e7d5b191b7990d95919f42cc5c05", func := "loop.example/g01259/laws.FnExactIsHollowThree", spec := "fnExactIsHollowThree", unfollowed := true, recurses := true, apart := false }
def FnExactIsHollowThreeSaid : Prop := fnExactIsHollowThreeRow.holds Try.pinned (OpenSpec.ofChange fnExactIsHollowThreeSpec)

/-- ITS FALSE NEIGHBOUR: 'it returns false'. Refute it at one input. -/
def fnExactIsHollowThreeWrong : ChangeSpec := { name := "fnExactIsHollowThree", fn := fun _ => fun
  | [d] => { results := [.lit (.bool false)], args := [d] }
  | _ => none }
def FnExactIsHollowThreeWrongFalsely : Prop := fnExactIsHollowThreeRow.holds Try.pinned (OpenSpec.ofChange fnExactIsHollowThreeWrong)

/-- 'laws.FnExactLinesOfCut': WHATEVER THE INPUT: true; the input reads as it did. -/
def fnExactLinesOfCutSpec : ChangeSpec := { name := "fnExactLinesOfCut", fn := fun _ => fun
  | [d] => { results := [.lit (.bool true)], args := [d] }
  | _ => none }
def fnExactLinesOfCutRow : OpenClaim := { program := "ytiacfkilmknldaa", sum := "ae1751a6fd980aebb8051f1abf2239613462e7d5b191b7990d95919f42cc5c05", func := "loop.example/g01259/laws.FnExactLinesOfCut", spec := "fnExactLinesOfCut", unfollowed := true, recurses := true, apart := false }
def FnExactLinesOfCutSaid : Prop := fnExactLinesOfCutRow.holds Try.pinned (OpenSpec.ofChange fnExactLinesOfCutSpec)

/-- ITS FALSE NEIGHBOUR: 'it returns false'. Refute it at one input. -/
def fnExactLinesOfCutWrong : ChangeSpec := { name := "fnExactLinesOfCut", fn := fun _ => fun
  | [d] => { results := [.lit (.bool false)], args := [d] }
  | _ => none }
def FnExactLinesOfCutWrongFalsely : Prop := fnExactLinesOfCutRow.holds Try.pinned (OpenSpec.ofChange fnExactLinesOfCutWrong)

/-- 'laws.FnExactWidthIn': WHATEVER THE INPUT: true; the input reads as it did. -/
def fnExactWidthInSpec : ChangeSpec := { name := "fnExactWidthIn", fn := fun _ => fun
  | [d1, d2, d3] => { results := [.lit (.bool true)], args := [d1, d2, d3] }
  | _ => none }
def fnExactWidthInRow : OpenClaim := { program := "ytiacfkilmknldaa", sum := "ae1751a6fd980aebb8051f1abf2239613462e7d5b191b7990d95919f42cc5c05", func := "loop.example/g01259/laws.FnExactWidthIn", spec := "fnExactWidthIn", unfollowed := true, recurses := true, apart := false }
def FnExactWidthInSaid : Prop := fnExactWidthInRow.holds Try.pinned (OpenSpec.ofChange fnExactWidthInSpec)

/-- ITS FALSE NEIGHBOUR: 'it returns false'. Refute it at one input. -/
def fnExactWidthInWrong : ChangeSpec := { name := "fnExactWidthIn", fn := fun _ => fun
  | [d1, d2, d3] => { results := [.lit (.bool false)], args := [d1, d2, d3] }
  | _ => none }
def FnExactWidthInWrongFalsely : Prop := fnExactWidthInRow.holds Try.pinned (OpenSpec.ofChange fnExactWidthInWrong)

/-- 'laws.FnExactPegOfParts': WHATEVER THE INPUT: true; the input reads as it did. -/
def fnExactPegOfPartsSpec : ChangeSpec := { name := "fnExactPegOfParts", fn := fun _ => fun
  | [d1, d2] => { results := [.lit (.bool true)], args := [d1, d2] }
  | _ => none }
def fnExactPegOfPartsRow : OpenClaim := { program := "ytiacfkilmknldaa", sum := "ae1751a6fd980aebb8051f1abf2239613462e7d5b191b7990d95919f42cc5c05", func := "loop.example/g01259/laws.FnExactPegOfParts", spec := "fnExactPegOfParts", unfollowed := true, recurses := true, apart := false }
def FnExactPegOfPartsSaid : Prop := fnExactPegOfPartsRow.holds Try.pinned (OpenSpec.ofChange fnExactPegOfPartsSpec)

/-- ITS FALSE NEIGHBOUR: 'it returns false'. Refute it at one input. -/
def fnExactPegOfPartsWrong : ChangeSpec := { name := "fnExactPegOfParts", fn := fun _ => fun
  | [d1, d2] => { results := [.lit (.bool false)], args := [d1, d2] }
  | _ => none }
def FnExactPegOfPartsWrongFalsely : Prop := fnExactPegOfPartsRow.holds Try.pinned (OpenSpec.ofChange fnExactPegOfPartsWrong)

/-- 'laws.FnExactListInside': WHATEVER THE INPUT: true; the input reads as it did. -/
def fnExactListInsideSpec : ChangeSpec := { name := "fnExactListInside", fn := fun _ => fun
  | [d] => { results := [.lit (.bool true)], args := [d] }
  | _ => none }
def fnExactListInsideRow : OpenClaim := { program := "ytiacfkilmknldaa", sum := "ae1751a6fd980aebb8051f1abf2239613462e7d5b191b7990d95919f42cc5c05", func := "loop.example/g01259/laws.FnExactListInside", spec := "fnExactListInside", unfollowed := true, recurses := true, apart := false }
def FnExactListInsideSaid : Prop := fnExactListInsideRow.holds Try.pinned (OpenSpec.ofChange fnExactListInsideSpec)

/-- ITS FALSE NEIGHBOUR: 'it returns false'. Refute it at one input. -/
def fnExactListInsideWrong : ChangeSpec := { name := "fnExactListInside", fn := fun _ => fun
  | [d] => { results := [.lit (.bool false)], args := [d] }
  | _ => none }
def FnExactListInsideWrongFalsely : Prop := fnExactListInsideRow.holds Try.pinned (OpenSpec.ofChange fnExactListInsideWrong)

/-- 'laws.FnExactSplitThree': WHATEVER THE INPUT: true; the input reads as it did. -/
def fnExactSplitThreeSpec : ChangeSpec := { name := "fnExactSplitThree", fn := fun _ => fun
  | [d1, d2] => { results := [.lit (.bool true)], args := [d1, d2] }
  | _ => none }
def fnExactSplitThreeRow : OpenClaim := { program := "ytiacfkilmknldaa", sum := "ae1751a6fd980aebb8051f1abf2239613462e7d5b191b7990d95919f42cc5c05", func := "loop.example/g01259/laws.FnExactSplitThree", spec := "fnExactSplitThree", unfollowed := true, recurses := true, apart := false }
def FnExactSplitThreeSaid : Prop := fnExactSplitThreeRow.holds Try.pinned (OpenSpec.ofChange fnExactSplitThreeSpec)

/-- ITS FALSE NEIGHBOUR: 'it returns false'. Refute it at one input. -/
def fnExactSplitThreeWrong : ChangeSpec := { name := "fnExactSplitThree", fn := fun _ => fun
  | [d1, d2] => { results := [.lit (.bool false)], args := [d1, d2] }
  | _ => none }
def FnExactSplitThreeWrongFalsely : Prop := fnExactSplitThreeRow.holds Try.pinned (OpenSpec.ofChange fnExactSplitThreeWrong)

/- THE SECOND FORM. 'bulk': how many values and letters a reading holds, each counted each time it is reached (what is shared counts as often as it is met; a slice's spare places count too). A statement '..UptoSaid' is the law's where the arguments, and the package variables that the reading takes, are together of bulk at most 1048576: NARROWER than '..Said'. Prove '..Said' where nothing that the law and all that it calls make is longer than what came in: it says more and counts as full. Else prove '..UptoSaid'. A law counts once. -/
mutual
def uptoBulk {H : Type} : DataW H → Nat
  | .lit (.string bytes) => bytes.length + 1
  | .lit _ => 1
  | .nil => 1
  | .ptr d => uptoBulk d + 1
  | .slice elems spare => uptoBulkAll elems + uptoBulkAll spare + 1
  | .agg parts => uptoBulkAll parts + 1
  | .iface _ d => uptoBulk d + 1
  | .map entries => uptoBulkEntries entries + 1
  | .held _ => 1
def uptoBulkAll {H : Type} : List (DataW H) → Nat
  | [] => 0
  | d :: r => uptoBulk d + uptoBulkAll r
def uptoBulkEntries {H : Type} : List (Lit × DataW H) → Nat
  | [] => 0
  | x :: r => uptoBulkEntry x + uptoBulkEntries r
def uptoBulkEntry {H : Type} : Lit × DataW H → Nat
  | (.string bytes, d) => bytes.length + uptoBulk d + 1
  | (_, d) => uptoBulk d + 1
 end
def uptoSmall : (H : Type) → List (DataW H) → Bool := fun _ ds => decide (uptoBulkAll ds ≤ 1048576)
def OpenSpec.upto (s : _root_.Go.ChangeSpec) : _root_.Go.OpenSpec := { _root_.Go.OpenSpec.ofChange s with cond := some uptoSmall }

/-- 'laws.FnExactIsConvex', WHERE WHAT IT READS IS OF BULK AT MOST 1048576: true; the input reads as it did. -/
def fnExactIsConvexUptoRow : OpenClaim := { program := "ytiacfkilmknldaa", sum := "ae1751a6fd980aebb8051f1abf2239613462e7d5b191b7990d95919f42cc5c05", func := "loop.example/g01259/laws.FnExactIsConvex", spec := "fnExactIsConvex", unfollowed := true, recurses := true, apart := false, narrowed := true }
def FnExactIsConvexUptoSaid : Prop := fnExactIsConvexUptoRow.holds Try.pinned (OpenSpec.upto fnExactIsConvexSpec)

/-- 'laws.FnExactWhereIs', WHERE WHAT IT READS IS OF BULK AT MOST 1048576: true; the input reads as it did. -/
def fnExactWhereIsUptoRow : OpenClaim := { program := "ytiacfkilmknldaa", sum := "ae1751a6fd980aebb8051f1abf2239613462e7d5b191b7990d95919f42cc5c05", func := "loop.example/g01259/laws.FnExactWhereIs", spec := "fnExactWhereIs", unfollowed := true, recurses := true, apart := false, narrowed := true }
def FnExactWhereIsUptoSaid : Prop := fnExactWhereIsUptoRow.holds Try.pinned (OpenSpec.upto fnExactWhereIsSpec)

/-- 'laws.FnExactBackPolygon', WHERE WHAT IT READS IS OF BULK AT MOST 1048576: true; the input reads as it did. -/
def fnExactBackPolygonUptoRow : OpenClaim := { program := "ytiacfkilmknldaa", sum := "ae1751a6fd980aebb8051f1abf2239613462e7d5b191b7990d95919f42cc5c05", func := "loop.example/g01259/laws.FnExactBackPolygon", spec := "fnExactBackPolygon", unfollowed := true, recurses := true, apart := false, narrowed := true }
def FnExactBackPolygonUptoSaid : Prop := fnExactBackPolygonUptoRow.holds Try.pinned (OpenSpec.upto fnExactBackPolygonSpec)

/-- 'laws.FnExactPegsOn', WHERE WHAT IT READS IS OF BULK AT MOST 1048576: true; the input reads as it did. -/
def fnExactPegsOnUptoRow : OpenClaim := { program := "ytiacfkilmknldaa", sum := "ae1751a6fd980aebb8051f1abf2239613462e7d5b191b7990d95919f42cc5c05", func := "loop.example/g01259/laws.FnExactPegsOn", spec := "fnExactPegsOn", unfollowed := true, recurses := true, apart := false, narrowed := true }
def FnExactPegsOnUptoSaid : Prop := fnExactPegsOnUptoRow.holds Try.pinned (OpenSpec.upto fnExactPegsOnSpec)

/-- 'laws.FnExactMiddleThree', WHERE WHAT IT READS IS OF BULK AT MOST 1048576: true; the input reads as it did. -/
def fnExactMiddleThreeUptoRow : OpenClaim := { program := "ytiacfkilmknldaa", sum := "ae1751a6fd980aebb8051f1abf2239613462e7d5b191b7990d95919f42cc5c05", func := "loop.example/g01259/laws.FnExactMiddleThree", spec := "fnExactMiddleThree", unfollowed := true, recurses := true, apart := false, narrowed := true }
def FnExactMiddleThreeUptoSaid : Prop := fnExactMiddleThreeUptoRow.holds Try.pinned (OpenSpec.upto fnExactMiddleThreeSpec)

/-- 'laws.FnExactMirrorPolygon', WHERE WHAT IT READS IS OF BULK AT MOST 1048576: true; the input reads as it did. -/
def fnExactMirrorPolygonUptoRow : OpenClaim := { program := "ytiacfkilmknldaa", sum := "ae1751a6fd980aebb8051f1abf2239613462e7d5b191b7990d95919f42cc5c05", func := "loop.example/g01259/laws.FnExactMirrorPolygon", spec := "fnExactMirrorPolygon", unfollowed := true, recurses := true, apart := false, narrowed := true }
def FnExactMirrorPolygonUptoSaid : Prop := fnExactMirrorPolygonUptoRow.holds Try.pinned (OpenSpec.upto fnExactMirrorPolygonSpec)

/-- 'laws.FnExactTurnPolygon', WHERE WHAT IT READS IS OF BULK AT MOST 1048576: true; the input reads as it did. -/
def fnExactTurnPolygonUptoRow : OpenClaim := { program := "ytiacfkilmknldaa", sum := "ae1751a6fd980aebb8051f1abf2239613462e7d5b191b7990d95919f42cc5c05", func := "loop.example/g01259/laws.FnExactTurnPolygon", spec := "fnExactTurnPolygon", unfollowed := true, recurses := true, apart := false, narrowed := true }
def FnExactTurnPolygonUptoSaid : Prop := fnExactTurnPolygonUptoRow.holds Try.pinned (OpenSpec.upto fnExactTurnPolygonSpec)

/-- 'laws.FnExactPartsOfPeg', WHERE WHAT IT READS IS OF BULK AT MOST 1048576: true; the input reads as it did. -/
def fnExactPartsOfPegUptoRow : OpenClaim := { program := "ytiacfkilmknldaa", sum := "ae1751a6fd980aebb8051f1abf2239613462e7d5b191b7990d95919f42cc5c05", func := "loop.example/g01259/laws.FnExactPartsOfPeg", spec := "fnExactPartsOfPeg", unfollowed := true, recurses := true, apart := false, narrowed := true }
def FnExactPartsOfPegUptoSaid : Prop := fnExactPartsOfPegUptoRow.holds Try.pinned (OpenSpec.upto fnExactPartsOfPegSpec)

/-- 'laws.FnExactSidesOfThree', WHERE WHAT IT READS IS OF BULK AT MOST 1048576: true; the input reads as it did. -/
def fnExactSidesOfThreeUptoRow : OpenClaim := { program := "ytiacfkilmknldaa", sum := "ae1751a6fd980aebb8051f1abf2239613462e7d5b191b7990d95919f42cc5c05", func := "loop.example/g01259/laws.FnExactSidesOfThree", spec := "fnExactSidesOfThree", unfollowed := true, recurses := true, apart := false, narrowed := true }
def FnExactSidesOfThreeUptoSaid : Prop := fnExactSidesOfThreeUptoRow.holds Try.pinned (OpenSpec.upto fnExactSidesOfThreeSpec)

/-- 'laws.FnExactMovePolygon', WHERE WHAT IT READS IS OF BULK AT MOST 1048576: true; the input reads as it did. -/
def fnExactMovePolygonUptoRow : OpenClaim := { program := "ytiacfkilmknldaa", sum := "ae1751a6fd980aebb8051f1abf2239613462e7d5b191b7990d95919f42cc5c05", func := "loop.example/g01259/laws.FnExactMovePolygon", spec := "fnExactMovePolygon", unfollowed := true, recurses := true, apart := false, narrowed := true }
def FnExactMovePolygonUptoSaid : Prop := fnExactMovePolygonUptoRow.holds Try.pinned (OpenSpec.upto fnExactMovePolygonSpec)

/-- 'laws.FnExactCircleOfThree', WHERE WHAT IT READS IS OF BULK AT MOST 1048576: true; the input reads as it did. -/
def fnExactCircleOfThreeUptoRow : OpenClaim := { program := "ytiacfkilmknldaa", sum := "ae1751a6fd980aebb8051f1abf2239613462e7d5b191b7990d95919f42cc5c05", func := "loop.example/g01259/laws.FnExactCircleOfThree", spec := "fnExactCircleOfThree", unfollowed := true, recurses := true, apart := false, narrowed := true }
def FnExactCircleOfThreeUptoSaid : Prop := fnExactCircleOfThreeUptoRow.holds Try.pinned (OpenSpec.upto fnExactCircleOfThreeSpec)

/-- 'laws.FnExactGrowThree', WHERE WHAT IT READS IS OF BULK AT MOST 1048576: true; the input reads as it did. -/
def fnExactGrowThreeUptoRow : OpenClaim := { program := "ytiacfkilmknldaa", sum := "ae1751a6fd980aebb8051f1abf2239613462e7d5b191b7990d95919f42cc5c05", func := "loop.example/g01259/laws.FnExactGrowThree", spec := "fnExactGrowThree", unfollowed := true, recurses := true, apart := false, narrowed := true }
def FnExactGrowThreeUptoSaid : Prop := fnExactGrowThreeUptoRow.holds Try.pinned (OpenSpec.upto fnExactGrowThreeSpec)

/-- 'laws.FnExactInCircle', WHERE WHAT IT READS IS OF BULK AT MOST 1048576: true; the input reads as it did. -/
def fnExactInCircleUptoRow : OpenClaim := { program := "ytiacfkilmknldaa", sum := "ae1751a6fd980aebb8051f1abf2239613462e7d5b191b7990d95919f42cc5c05", func := "loop.example/g01259/laws.FnExactInCircle", spec := "fnExactInCircle", unfollowed := true, recurses := true, apart := false, narrowed := true }
def FnExactInCircleUptoSaid : Prop := fnExactInCircleUptoRow.holds Try.pinned (OpenSpec.upto fnExactInCircleSpec)

/-- 'laws.FnExactPegsInAll', WHERE WHAT IT READS IS OF BULK AT MOST 1048576: true; the input reads as it did. -/
def fnExactPegsInAllUptoRow : OpenClaim := { program := "ytiacfkilmknldaa", sum := "ae1751a6fd980aebb8051f1abf2239613462e7d5b191b7990d95919f42cc5c05", func := "loop.example/g01259/laws.FnExactPegsInAll", spec := "fnExactPegsInAll", unfollowed := true, recurses := true, apart := false, narrowed := true }
def FnExactPegsInAllUptoSaid : Prop := fnExactPegsInAllUptoRow.holds Try.pinned (OpenSpec.upto fnExactPegsInAllSpec)

/-- 'laws.FnExactPegsInside', WHERE WHAT IT READS IS OF BULK AT MOST 1048576: true; the input reads as it did. -/
def fnExactPegsInsideUptoRow : OpenClaim := { program := "ytiacfkilmknldaa", sum := "ae1751a6fd980aebb8051f1abf2239613462e7d5b191b7990d95919f42cc5c05", func := "loop.example/g01259/laws.FnExactPegsInside", spec := "fnExactPegsInside", unfollowed := true, recurses := true, apart := false, narrowed := true }
def FnExactPegsInsideUptoSaid : Prop := fnExactPegsInsideUptoRow.holds Try.pinned (OpenSpec.upto fnExactPegsInsideSpec)

/-- 'laws.FnExactPegsOfGrown', WHERE WHAT IT READS IS OF BULK AT MOST 1048576: true; the input reads as it did. -/
def fnExactPegsOfGrownUptoRow : OpenClaim := { program := "ytiacfkilmknldaa", sum := "ae1751a6fd980aebb8051f1abf2239613462e7d5b191b7990d95919f42cc5c05", func := "loop.example/g01259/laws.FnExactPegsOfGrown", spec := "fnExactPegsOfGrown", unfollowed := true, recurses := true, apart := false, narrowed := true }
def FnExactPegsOfGrownUptoSaid : Prop := fnExactPegsOfGrownUptoRow.holds Try.pinned (OpenSpec.upto fnExactPegsOfGrownSpec)

/-- 'laws.FnExactIsHollowThree', WHERE WHAT IT READS IS OF BULK AT MOST 1048576: true; the input reads as it did. -/
def fnExactIsHollowThreeUptoRow : OpenClaim := { program := "ytiacfkilmknldaa", sum := "ae1751a6fd980aebb8051f1abf2239613462e7d5b191b7990d95919f42cc5c05", func := "loop.example/g01259/laws.FnExactIsHollowThree", spec := "fnExactIsHollowThree", unfollowed := true, recurses := true, apart := false, narrowed := true }
def FnExactIsHollowThreeUptoSaid : Prop := fnExactIsHollowThreeUptoRow.holds Try.pinned (OpenSpec.upto fnExactIsHollowThreeSpec)

/-- 'laws.FnExactLinesOfCut', WHERE WHAT IT READS IS OF BULK AT MOST 1048576: true; the input reads as it did. -/
def fnExactLinesOfCutUptoRow : OpenClaim := { program := "ytiacfkilmknldaa", sum := "ae1751a6fd980aebb8051f1abf2239613462e7d5b191b7990d95919f42cc5c05", func := "loop.example/g01259/laws.FnExactLinesOfCut", spec := "fnExactLinesOfCut", unfollowed := true, recurses := true, apart := false, narrowed := true }
def FnExactLinesOfCutUptoSaid : Prop := fnExactLinesOfCutUptoRow.holds Try.pinned (OpenSpec.upto fnExactLinesOfCutSpec)

/-- 'laws.FnExactWidthIn', WHERE WHAT IT READS IS OF BULK AT MOST 1048576: true; the input reads as it did. -/
def fnExactWidthInUptoRow : OpenClaim := { program := "ytiacfkilmknldaa", sum := "ae1751a6fd980aebb8051f1abf2239613462e7d5b191b7990d95919f42cc5c05", func := "loop.example/g01259/laws.FnExactWidthIn", spec := "fnExactWidthIn", unfollowed := true, recurses := true, apart := false, narrowed := true }
def FnExactWidthInUptoSaid : Prop := fnExactWidthInUptoRow.holds Try.pinned (OpenSpec.upto fnExactWidthInSpec)

/-- 'laws.FnExactPegOfParts', WHERE WHAT IT READS IS OF BULK AT MOST 1048576: true; the input reads as it did. -/
def fnExactPegOfPartsUptoRow : OpenClaim := { program := "ytiacfkilmknldaa", sum := "ae1751a6fd980aebb8051f1abf2239613462e7d5b191b7990d95919f42cc5c05", func := "loop.example/g01259/laws.FnExactPegOfParts", spec := "fnExactPegOfParts", unfollowed := true, recurses := true, apart := false, narrowed := true }
def FnExactPegOfPartsUptoSaid : Prop := fnExactPegOfPartsUptoRow.holds Try.pinned (OpenSpec.upto fnExactPegOfPartsSpec)

/-- 'laws.FnExactListInside', WHERE WHAT IT READS IS OF BULK AT MOST 1048576: true; the input reads as it did. -/
def fnExactListInsideUptoRow : OpenClaim := { program := "ytiacfkilmknldaa", sum := "ae1751a6fd980aebb8051f1abf2239613462e7d5b191b7990d95919f42cc5c05", func := "loop.example/g01259/laws.FnExactListInside", spec := "fnExactListInside", unfollowed := true, recurses := true, apart := false, narrowed := true }
def FnExactListInsideUptoSaid : Prop := fnExactListInsideUptoRow.holds Try.pinned (OpenSpec.upto fnExactListInsideSpec)

/-- 'laws.FnExactSplitThree', WHERE WHAT IT READS IS OF BULK AT MOST 1048576: true; the input reads as it did. -/
def fnExactSplitThreeUptoRow : OpenClaim := { program := "ytiacfkilmknldaa", sum := "ae1751a6fd980aebb8051f1abf2239613462e7d5b191b7990d95919f42cc5c05", func := "loop.example/g01259/laws.FnExactSplitThree", spec := "fnExactSplitThree", unfollowed := true, recurses := true, apart := false, narrowed := true }
def FnExactSplitThreeUptoSaid : Prop := fnExactSplitThreeUptoRow.holds Try.pinned (OpenSpec.upto fnExactSplitThreeSpec)

end Rows
end Go.Proofs.Ytiacfkilmknldaa
