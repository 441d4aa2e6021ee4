/-
  No cell of these rows narrows 'for every input' (looked for: loops, veiled, ifaces, maps, wideKeys, modest, calm, conditions, laid).
  DERIVED. THE GIVEN ROWS OF THIS SEAT. 12 by the template 'for every input the law returns true; each argument reads behind the call as it read before'; 0 by the template 'total and deterministic' (their statements: YtklhakfmegbobaaTotals.lean).
  GIVEN WITH THE SEED: the statements are not yours to turn. If you find one false, say at which input.
  Laid BY PROGRAM, IN A SANDBOX (cutbox-rows.mjs): the forced cells as the released guide's own fill.sh prints them over the translation c05a6864495d8dca… (all of the seat's roots in one cut). By AI agents, Wed Nov 11 2026. No macro, syntax, notation, axiom, sorry.
-/
import Derived.Test.YtklhakfmegbobaaChecked
import GoSem.Claim
import GoSem.ClaimJoined
import GoSem.ClaimMapViews
import Derived.JoinedTies
import Derived.KernelRfl
namespace Go.Proofs.Ytklhakfmegbobaa
/- THE CELL 'sum', in the pinned program and in every row, IS THE sha256 OF THE DUMP (.gsa) THAT YtklhakfmegbobaaProg.lean LOADS. Nothing in Lean hashes anything: it is a label: what it is worth is what the hold of that sum in a sandbox is worth. -/
noncomputable def Try.pinned : Pinned := { name := "ytklhakfmegbobaa", sum := "c05a6864495d8dca56d91cc78a68823d372458801493a61c9d21de038015d81b", checked := Try.checked }
namespace Rows
def none {H : Type} : Left H := { results := [], args := [] }

/-- 'laws.FnExactPegOfParts': WHATEVER THE INPUT: true; the input reads as it did. -/
def fnExactPegOfPartsSpec : ChangeSpec := { name := "fnExactPegOfParts", fn := fun _ => fun
  | [d1, d2] => { results := [.lit (.bool true)], args := [d1, d2] }
  | _ => none }
def fnExactPegOfPartsRow : OpenClaim := { program := "ytklhakfmegbobaa", sum := "c05a6864495d8dca56d91cc78a68823d372458801493a61c9d21de038015d81b", func := "loop.example/g01259/laws.FnExactPegOfParts", spec := "fnExactPegOfParts", unfollowed := true, recurses := true, apart := false }
def FnExactPegOfPartsSaid : Prop := fnExactPegOfPartsRow.holds Try.pinned (OpenSpec.ofChange fnExactPegOfPartsSpec)

/-- ITS FALSE NEIGHBOUR: 'it returns false'. Refute it at one input. -/
def fnExactPegOfPartsWrong : ChangeSpec := { name := "fnExactPegOfParts", fn := fun _ => fun
  | [d1, d2] => { results := [.lit (.bool false)], args := [d1, d2] }
  | _ => none }
def FnExactPegOfPartsWrongFalsely : Prop := fnExactPegOfPartsRow.holds Try.pinned (OpenSpec.ofChange fnExactPegOfPartsWrong)

/-- 'laws.FnExactBackPolygon': WHATEVER THE INPUT: true; the input reads as it did. -/
def fnExactBackPolygonSpec : ChangeSpec := { name := "fnExactBackPolygon", fn := fun _ => fun
  | [d] => { results := [.lit (.bool true)], args := [d] }
  | _ => none }
def fnExactBackPolygonRow : OpenClaim := { program := "ytklhakfmegbobaa", sum := "c05a6864495d8dca56d91cc78a68823d372458801493a61c9d21de038015d81b", func := "loop.example/g01259/laws.FnExactBackPolygon", spec := "fnExactBackPolygon", unfollowed := true, recurses := true, apart := false }
def FnExactBackPolygonSaid : Prop := fnExactBackPolygonRow.holds Try.pinned (OpenSpec.ofChange fnExactBackPolygonSpec)

/-- ITS FALSE NEIGHBOUR: 'it returns false'. Refute it at one input. -/
def fnExactBackPolygonWrong : ChangeSpec := { name := "fnExactBackPolygon", fn := fun _ => fun
  | [d] => { results := [.lit (.bool false)], args := [d] }
  | _ => none }
def FnExactBackPolygonWrongFalsely : Prop := fnExactBackPolygonRow.holds Try.pinned (OpenSpec.ofChange fnExactBackPolygonWrong)

/-- 'laws.FnExactIsOneInside': WHATEVER THE INPUT: true; the input reads as it did. -/
def fnExactIsOneInsideSpec : ChangeSpec := { name := "fnExactIsOneInside", fn := fun _ => fun
  | [d] => { results := [.lit (.bool true)], args := [d] }
  | _ => none }
def fnExactIsOneInsideRow : OpenClaim := { program := "ytklhakfmegbobaa", sum := "c05a6864495d8dca56d91cc78a68823d372458801493a61c9d21de038015d81b", func := "loop.example/g01259/laws.FnExactIsOneInside", spec := "fnExactIsOneInside", unfollowed := true, recurses := true, apart := false }
def FnExactIsOneInsideSaid : Prop := fnExactIsOneInsideRow.holds Try.pinned (OpenSpec.ofChange fnExactIsOneInsideSpec)

/-- ITS FALSE NEIGHBOUR: 'it returns false'. Refute it at one input. -/
def fnExactIsOneInsideWrong : ChangeSpec := { name := "fnExactIsOneInside", fn := fun _ => fun
  | [d] => { results := [.lit (.bool false)], args := [d] }
  | _ => none }
def FnExactIsOneInsideWrongFalsely : Prop := fnExactIsOneInsideRow.holds Try.pinned (OpenSpec.ofChange fnExactIsOneInsideWrong)

/-- 'laws.FnExactPolygonOfNumbers': WHATEVER THE INPUT: true; the input reads as it did. -/
def fnExactPolygonOfNumbersSpec : ChangeSpec := { name := "fnExactPolygonOfNumbers", fn := fun _ => fun
  | [d] => { results := [.lit (.bool true)], args := [d] }
  | _ => none }
def fnExactPolygonOfNumbersRow : OpenClaim := { program := "ytklhakfmegbobaa", sum := "c05a6864495d8dca56d91cc78a68823d372458801493a61c9d21de038015d81b", func := "loop.example/g01259/laws.FnExactPolygonOfNumbers", spec := "fnExactPolygonOfNumbers", unfollowed := true, recurses := true, apart := false }
def FnExactPolygonOfNumbersSaid : Prop := fnExactPolygonOfNumbersRow.holds Try.pinned (OpenSpec.ofChange fnExactPolygonOfNumbersSpec)

/-- ITS FALSE NEIGHBOUR: 'it returns false'. Refute it at one input. -/
def fnExactPolygonOfNumbersWrong : ChangeSpec := { name := "fnExactPolygonOfNumbers", fn := fun _ => fun
  | [d] => { results := [.lit (.bool false)], args := [d] }
  | _ => none }
def FnExactPolygonOfNumbersWrongFalsely : Prop := fnExactPolygonOfNumbersRow.holds Try.pinned (OpenSpec.ofChange fnExactPolygonOfNumbersWrong)

/-- 'laws.FnExactTellFirst': WHATEVER THE INPUT: true; the input reads as it did. -/
def fnExactTellFirstSpec : ChangeSpec := { name := "fnExactTellFirst", fn := fun _ => fun
  | [d] => { results := [.lit (.bool true)], args := [d] }
  | _ => none }
def fnExactTellFirstRow : OpenClaim := { program := "ytklhakfmegbobaa", sum := "c05a6864495d8dca56d91cc78a68823d372458801493a61c9d21de038015d81b", func := "loop.example/g01259/laws.FnExactTellFirst", spec := "fnExactTellFirst", unfollowed := true, recurses := true, apart := false }
def FnExactTellFirstSaid : Prop := fnExactTellFirstRow.holds Try.pinned (OpenSpec.ofChange fnExactTellFirstSpec)

/-- ITS FALSE NEIGHBOUR: 'it returns false'. Refute it at one input. -/
def fnExactTellFirstWrong : ChangeSpec := { name := "fnExactTellFirst", fn := fun _ => fun
  | [d] => { results := [.lit (.bool false)], args := [d] }
  | _ => none }
def FnExactTellFirstWrongFalsely : Prop := fnExactTellFirstRow.holds Try.pinned (OpenSpec.ofChange fnExactTellFirstWrong)

/-- 'laws.FnExactMovePolygon': WHATEVER THE INPUT: true; the input reads as it did. -/
def fnExactMovePolygonSpec : ChangeSpec := { name := "fnExactMovePolygon", fn := fun _ => fun
  | [d1, d2, d3] => { results := [.lit (.bool true)], args := [d1, d2, d3] }
  | _ => none }
def fnExactMovePolygonRow : OpenClaim := { program := "ytklhakfmegbobaa", sum := "c05a6864495d8dca56d91cc78a68823d372458801493a61c9d21de038015d81b", func := "loop.example/g01259/laws.FnExactMovePolygon", spec := "fnExactMovePolygon", unfollowed := true, recurses := true, apart := false }
def FnExactMovePolygonSaid : Prop := fnExactMovePolygonRow.holds Try.pinned (OpenSpec.ofChange fnExactMovePolygonSpec)

/-- ITS FALSE NEIGHBOUR: 'it returns false'. Refute it at one input. -/
def fnExactMovePolygonWrong : ChangeSpec := { name := "fnExactMovePolygon", fn := fun _ => fun
  | [d1, d2, d3] => { results := [.lit (.bool false)], args := [d1, d2, d3] }
  | _ => none }
def FnExactMovePolygonWrongFalsely : Prop := fnExactMovePolygonRow.holds Try.pinned (OpenSpec.ofChange fnExactMovePolygonWrong)

/-- 'laws.FnExactGrowThree': WHATEVER THE INPUT: true; the input reads as it did. -/
def fnExactGrowThreeSpec : ChangeSpec := { name := "fnExactGrowThree", fn := fun _ => fun
  | [d1, d2] => { results := [.lit (.bool true)], args := [d1, d2] }
  | _ => none }
def fnExactGrowThreeRow : OpenClaim := { program := "ytklhakfmegbobaa", sum := "c05a6864495d8dca56d91cc78a68823d372458801493a61c9d21de038015d81b", func := "loop.example/g01259/laws.FnExactGrowThree", spec := "fnExactGrowThree", unfollowed := true, recurses := true, apart := false }
def FnExactGrowThreeSaid : Prop := fnExactGrowThreeRow.holds Try.pinned (OpenSpec.ofChange fnExactGrowThreeSpec)

/-- ITS FALSE NEIGHBOUR: 'it returns false'. Refute it at one input. -/
def fnExactGrowThreeWrong : ChangeSpec := { name := "fnExactGrowThree", fn := fun _ => fun
  | [d1, d2] => { results := [.lit (.bool false)], args := [d1, d2] }
  | _ => none }
def FnExactGrowThreeWrongFalsely : Prop := fnExactGrowThreeRow.holds Try.pinned (OpenSpec.ofChange fnExactGrowThreeWrong)

/-- 'laws.FnExactMoveCorners': WHATEVER THE INPUT: true; the input reads as it did. -/
def fnExactMoveCornersSpec : ChangeSpec := { name := "fnExactMoveCorners", fn := fun _ => fun
  | [d1, d2] => { results := [.lit (.bool true)], args := [d1, d2] }
  | _ => none }
def fnExactMoveCornersRow : OpenClaim := { program := "ytklhakfmegbobaa", sum := "c05a6864495d8dca56d91cc78a68823d372458801493a61c9d21de038015d81b", func := "loop.example/g01259/laws.FnExactMoveCorners", spec := "fnExactMoveCorners", unfollowed := true, recurses := true, apart := false }
def FnExactMoveCornersSaid : Prop := fnExactMoveCornersRow.holds Try.pinned (OpenSpec.ofChange fnExactMoveCornersSpec)

/-- ITS FALSE NEIGHBOUR: 'it returns false'. Refute it at one input. -/
def fnExactMoveCornersWrong : ChangeSpec := { name := "fnExactMoveCorners", fn := fun _ => fun
  | [d1, d2] => { results := [.lit (.bool false)], args := [d1, d2] }
  | _ => none }
def FnExactMoveCornersWrongFalsely : Prop := fnExactMoveCornersRow.holds Try.pinned (OpenSpec.ofChange fnExactMoveCornersWrong)

/-- 'laws.FnExactPegsPerLine': WHATEVER THE INPUT: true; the input reads as it did. -/
def fnExactPegsPerLineSpec : ChangeSpec := { name := "fnExactPegsPerLine", fn := fun _ => fun
  | [d1, d2, d3] => { results := [.lit (.bool true)], args := [d1, d2, d3] }
  | _ => none }
def fnExactPegsPerLineRow : OpenClaim := { program := "ytklhakfmegbobaa", sum := "c05a6864495d8dca56d91cc78a68823d372458801493a61c9d21de038015d81b", func := "loop.example/g01259/laws.FnExactPegsPerLine", spec := "fnExactPegsPerLine", unfollowed := true, recurses := true, apart := false }
def FnExactPegsPerLineSaid : Prop := fnExactPegsPerLineRow.holds Try.pinned (OpenSpec.ofChange fnExactPegsPerLineSpec)

/-- ITS FALSE NEIGHBOUR: 'it returns false'. Refute it at one input. -/
def fnExactPegsPerLineWrong : ChangeSpec := { name := "fnExactPegsPerLine", fn := fun _ => fun
  | [d1, d2, d3] => { results := [.lit (.bool false)], args := [d1, d2, d3] }
  | _ => none }
def FnExactPegsPerLineWrongFalsely : Prop := fnExactPegsPerLineRow.holds Try.pinned (OpenSpec.ofChange fnExactPegsPerLineWrong)

/-- 'laws.FnExactSplitThree': WHATEVER THE INPUT: true; the input reads as it did. -/
def fnExactSplitThreeSpec : ChangeSpec := { name := "fnExactSplitThree", fn := fun _ => fun
  | [d1, d2] => { results := [.lit (.bool true)], args := [d1, d2] }
  | _ => none }
def fnExactSplitThreeRow : OpenClaim := { program := "ytklhakfmegbobaa", sum := "c05a6864495d8dca56d91cc78a68823d372458801493a61c9d21de038015d81b", func := "loop.example/g01259/laws.FnExactSplitThree", spec := "fnExactSplitThree", unfollowed := true, recurses := true, apart := false }
def FnExactSplitThreeSaid : Prop := fnExactSplitThreeRow.holds Try.pinned (OpenSpec.ofChange fnExactSplitThreeSpec)

/-- ITS FALSE NEIGHBOUR: 'it returns false'. Refute it at one input. -/
def fnExactSplitThreeWrong : ChangeSpec := { name := "fnExactSplitThree", fn := fun _ => fun
  | [d1, d2] => { results := [.lit (.bool false)], args := [d1, d2] }
  | _ => none }
def FnExactSplitThreeWrongFalsely : Prop := fnExactSplitThreeRow.holds Try.pinned (OpenSpec.ofChange fnExactSplitThreeWrong)

/-- 'laws.FnExactDualNumbers': WHATEVER THE INPUT: true; the input reads as it did. -/
def fnExactDualNumbersSpec : ChangeSpec := { name := "fnExactDualNumbers", fn := fun _ => fun
  | [d] => { results := [.lit (.bool true)], args := [d] }
  | _ => none }
def fnExactDualNumbersRow : OpenClaim := { program := "ytklhakfmegbobaa", sum := "c05a6864495d8dca56d91cc78a68823d372458801493a61c9d21de038015d81b", func := "loop.example/g01259/laws.FnExactDualNumbers", spec := "fnExactDualNumbers", unfollowed := true, recurses := true, apart := false }
def FnExactDualNumbersSaid : Prop := fnExactDualNumbersRow.holds Try.pinned (OpenSpec.ofChange fnExactDualNumbersSpec)

/-- ITS FALSE NEIGHBOUR: 'it returns false'. Refute it at one input. -/
def fnExactDualNumbersWrong : ChangeSpec := { name := "fnExactDualNumbers", fn := fun _ => fun
  | [d] => { results := [.lit (.bool false)], args := [d] }
  | _ => none }
def FnExactDualNumbersWrongFalsely : Prop := fnExactDualNumbersRow.holds Try.pinned (OpenSpec.ofChange fnExactDualNumbersWrong)

/-- 'laws.FnExactSumOfBoth': WHATEVER THE INPUT: true; the input reads as it did. -/
def fnExactSumOfBothSpec : ChangeSpec := { name := "fnExactSumOfBoth", fn := fun _ => fun
  | [d] => { results := [.lit (.bool true)], args := [d] }
  | _ => none }
def fnExactSumOfBothRow : OpenClaim := { program := "ytklhakfmegbobaa", sum := "c05a6864495d8dca56d91cc78a68823d372458801493a61c9d21de038015d81b", func := "loop.example/g01259/laws.FnExactSumOfBoth", spec := "fnExactSumOfBoth", unfollowed := true, recurses := true, apart := false }
def FnExactSumOfBothSaid : Prop := fnExactSumOfBothRow.holds Try.pinned (OpenSpec.ofChange fnExactSumOfBothSpec)

/-- ITS FALSE NEIGHBOUR: 'it returns false'. Refute it at one input. -/
def fnExactSumOfBothWrong : ChangeSpec := { name := "fnExactSumOfBoth", fn := fun _ => fun
  | [d] => { results := [.lit (.bool false)], args := [d] }
  | _ => none }
def FnExactSumOfBothWrongFalsely : Prop := fnExactSumOfBothRow.holds Try.pinned (OpenSpec.ofChange fnExactSumOfBothWrong)

/- THE SECOND FORM. 'bulk': how many values and letters a reading holds, each counted each time it is reached (what is shared counts as often as it is met; a slice's spare places count too). A statement '..UptoSaid' is the law's where the arguments, and the package variables that the reading takes, are together of bulk at most 1048576: NARROWER than '..Said'. Prove '..Said' where nothing that the law and all that it calls make is longer than what came in: it says more and counts as full. Else prove '..UptoSaid'. A law counts once. -/
mutual
def uptoBulk {H : Type} : DataW H → Nat
  | .lit (.string bytes) => bytes.length + 1
  | .lit _ => 1
  | .nil => 1
  | .ptr d => uptoBulk d + 1
  | .slice elems spare => uptoBulkAll elems + uptoBulkAll spare + 1
  | .agg parts => uptoBulkAll parts + 1
  | .iface _ d => uptoBulk d + 1
  | .map entries => uptoBulkEntries entries + 1
  | .held _ => 1
def uptoBulkAll {H : Type} : List (DataW H) → Nat
  | [] => 0
  | d :: r => uptoBulk d + uptoBulkAll r
def uptoBulkEntries {H : Type} : List (Lit × DataW H) → Nat
  | [] => 0
  | x :: r => uptoBulkEntry x + uptoBulkEntries r
def uptoBulkEntry {H : Type} : Lit × DataW H → Nat
  | (.string bytes, d) => bytes.length + uptoBulk d + 1
  | (_, d) => uptoBulk d + 1
 end
def uptoSmall : (H : Type) → List (DataW H) → Bool := fun _ ds => decide (uptoBulkAll ds ≤ 1048576)
def OpenSpec.upto (s : _root_.Go.ChangeSpec) : _root_.Go.OpenSpec := { _root_.Go.OpenSpec.ofChange s with cond := some uptoSmall }

/-- 'laws.FnExactPegOfParts', WHERE WHAT IT READS IS OF BULK AT MOST 1048576: true; the input reads as it did. -/
def fnExactPegOfPartsUptoRow : OpenClaim := { program := "ytklhakfmegbobaa", sum := "c05a6864495d8dca56d91cc78a68823d372458801493a61c9d21de038015d81b", func := "loop.example/g01259/laws.FnExactPegOfParts", spec := "fnExactPegOfParts", unfollowed := true, recurses := true, apart := false, narrowed := true }
def FnExactPegOfPartsUptoSaid : Prop := fnExactPegOfPartsUptoRow.holds Try.pinned (OpenSpec.upto fnExactPegOfPartsSpec)

/-- 'laws.FnExactBackPolygon', WHERE WHAT IT READS IS OF BULK AT MOST 1048576: true; the input reads as it did. -/
def fnExactBackPolygonUptoRow : OpenClaim := { program := "ytklhakfmegbobaa", sum := "c05a6864495d8dca56d91cc78a68823d372458801493a61c9d21de038015d81b", func := "loop.example/g01259/laws.FnExactBackPolygon", spec := "fnExactBackPolygon", unfollowed := true, recurses := true, apart := false, narrowed := true }
def FnExactBackPolygonUptoSaid : Prop := fnExactBackPolygonUptoRow.holds Try.pinned (OpenSpec.upto fnExactBackPolygonSpec)

/-- 'laws.FnExactIsOneInside', WHERE WHAT IT READS IS OF BULK AT MOST 1048576: true; the input reads as it did. -/
def fnExactIsOneInsideUptoRow : OpenClaim := { program := "ytklhakfmegbobaa", sum := "c05a6864495d8dca56d91cc78a68823d372458801493a61c9d21de038015d81b", func := "loop.example/g01259/laws.FnExactIsOneInside", spec := "fnExactIsOneInside", unfollowed := true, recurses := true, apart := false, narrowed := true }
def FnExactIsOneInsideUptoSaid : Prop := fnExactIsOneInsideUptoRow.holds Try.pinned (OpenSpec.upto fnExactIsOneInsideSpec)

/-- 'laws.FnExactPolygonOfNumbers', WHERE WHAT IT READS IS OF BULK AT MOST 1048576: true; the input reads as it did. -/
def fnExactPolygonOfNumbersUptoRow : OpenClaim := { program := "ytklhakfmegbobaa", sum := "c05a6864495d8dca56d91cc78a68823d372458801493a61c9d21de038015d81b", func := "loop.example/g01259/laws.FnExactPolygonOfNumbers", spec := "fnExactPolygonOfNumbers", unfollowed := true, recurses := true, apart := false, narrowed := true }
def FnExactPolygonOfNumbersUptoSaid : Prop := fnExactPolygonOfNumbersUptoRow.holds Try.pinned (OpenSpec.upto fnExactPolygonOfNumbersSpec)

/-- 'laws.FnExactTellFirst', WHERE WHAT IT READS IS OF BULK AT MOST 1048576: true; the input reads as it did. -/
def fnExactTellFirstUptoRow : OpenClaim := { program := "ytklhakfmegbobaa", sum := "c05a6864495d8dca56d91cc78a68823d372458801493a61c9d21de038015d81b", func := "loop.example/g01259/laws.FnExactTellFirst", spec := "fnExactTellFirst", unfollowed := true, recurses := true, apart := false, narrowed := true }
def FnExactTellFirstUptoSaid : Prop := fnExactTellFirstUptoRow.holds Try.pinned (OpenSpec.upto fnExactTellFirstSpec)

/-- 'laws.FnExactMovePolygon', WHERE WHAT IT READS IS OF BULK AT MOST 1048576: true; the input reads as it did. -/
def fnExactMovePolygonUptoRow : OpenClaim := { program := "ytklhakfmegbobaa", sum := "c05a6864495d8dca56d91cc78a68823d372458801493a61c9d21de038015d81b", func := "loop.example/g01259/laws.FnExactMovePolygon", spec := "fnExactMovePolygon", unfollowed := true, recurses := true, apart := false, narrowed := true }
def FnExactMovePolygonUptoSaid : Prop := fnExactMovePolygonUptoRow.holds Try.pinned (OpenSpec.upto fnExactMovePolygonSpec)

/-- 'laws.FnExactGrowThree', WHERE WHAT IT READS IS OF BULK AT MOST 1048576: true; the input reads as it did. -/
def fnExactGrowThreeUptoRow : OpenClaim := { program := "ytklhakfmegbobaa", sum := "c05a6864495d8dca56d91cc78a68823d372458801493a61c9d21de038015d81b", func := "loop.example/g01259/laws.FnExactGrowThree", spec := "fnExactGrowThree", unfollowed := true, recurses := true, apart := false, narrowed := true }
def FnExactGrowThreeUptoSaid : Prop := fnExactGrowThreeUptoRow.holds Try.pinned (OpenSpec.upto fnExactGrowThreeSpec)

/-- 'laws.FnExactMoveCorners', WHERE WHAT IT READS IS OF BULK AT MOST 1048576: true; the input reads as it did. -/
def fnExactMoveCornersUptoRow : OpenClaim := { program := "ytklhakfmegbobaa", sum := "c05a6864495d8dca56d91cc78a68823d372458801493a61c9d21de038015d81b", func := "loop.example/g01259/laws.FnExactMoveCorners", spec := "fnExactMoveCorners", unfollowed := true, recurses := true, apart := false, narrowed := true }
def FnExactMoveCornersUptoSaid : Prop := fnExactMoveCornersUptoRow.holds Try.pinned (OpenSpec.upto fnExactMoveCornersSpec)

/-- 'laws.FnExactPegsPerLine', WHERE WHAT IT READS IS OF BULK AT MOST 1048576: true; the input reads as it did. -/
def fnExactPegsPerLineUptoRow : OpenClaim := { program := "ytklhakfmegbobaa", sum := "c05a6864495d8dca56d91cc78a68823d372458801493a61c9d21de038015d81b", func := "loop.example/g01259/laws.FnExactPegsPerLine", spec := "fnExactPegsPerLine", unfollowed := true, recurses := true, apart := false, narrowed := true }
def FnExactPegsPerLineUptoSaid : Prop := fnExactPegsPerLineUptoRow.holds Try.pinned (OpenSpec.upto fnExactPegsPerLineSpec)

/-- 'laws.FnExactSplitThree', WHERE WHAT IT READS IS OF BULK AT MOST 1048576: true; the input reads as it did. -/
def fnExactSplitThreeUptoRow : OpenClaim := { program := "ytklhakfmegbobaa", sum := "c05a6864495d8dca56d91cc78a68823d372458801493a61c9d21de038015d81b", func := "loop.example/g01259/laws.FnExactSplitThree", spec := "fnExactSplitThree", unfollowed := true, recurses := true, apart := false, narrowed := true }
def FnExactSplitThreeUptoSaid : Prop := fnExactSplitThreeUptoRow.holds Try.pinned (OpenSpec.upto fnExactSplitThreeSpec)

/-- 'laws.FnExactDualNumbers', WHERE WHAT IT READS IS OF BULK AT MOST 1048576: true; the input reads as it did. -/
def fnExactDualNumbersUptoRow : OpenClaim := { program := "ytklhakfmegbobaa", sum := "c05a6864495d8dca56d91cc78a68823d372458801493a61c9d21de038015d81b", func := "loop.example/g01259/laws.FnExactDualNumbers", spec := "fnExactDualNumbers", unfollowed := true, recurses := true, apart := false, narrowed := true }
def FnExactDualNumbersUptoSaid : Prop := fnExactDualNumbersUptoRow.holds Try.pinned (OpenSpec.upto fnExactDualNumbersSpec)

/-- 'laws.FnExactSumOfBoth', WHERE WHAT IT READS IS OF BULK AT MOST 1048576: true; the input reads as it did. -/
def fnExactSumOfBothUptoRow : OpenClaim := { program := "ytklhakfmegbobaa", sum := "c05a6864495d8dca56d91cc78a68823d372458801493a61c9d21de038015d81b", func := "loop.example/g01259/laws.FnExactSumOfBoth", spec := "fnExactSumOfBoth", unfollowed := true, recurses := true, apart := false, narrowed := true }
def FnExactSumOfBothUptoSaid : Prop := fnExactSumOfBothUptoRow.holds Try.pinned (OpenSpec.upto fnExactSumOfBothSpec)

end Rows
end Go.Proofs.Ytklhakfmegbobaa
