/-
  No cell of these rows narrows 'for every input' (looked for: loops, veiled, ifaces, maps, wideKeys, modest, calm, conditions, laid).
  DERIVED. THE GIVEN ROWS OF THIS SEAT. 12 by the template 'for every input the law returns true; each argument reads behind the call as it read before'; 0 by the template 'total and deterministic' (their statements: YtnlkglbpihgcmaaTotals.lean).
  GIVEN WITH THE SEED: the statements are not yours to turn. If you find one false, say at which input.
  Laid BY PROGRAM, IN A SANDBOX (cutbox-rows.mjs): the forced cells as the released guide's own fill.sh prints them over the translation 3cc139e4fc0c91ca… (all of the seat's roots in one cut). By AI agents, Wed Nov 11 2026. No macro, syntax, notation, axiom, sorry.
-/
import Derived.Test.YtnlkglbpihgcmaaChecked
import GoSem.Claim
import GoSem.ClaimJoined
import GoSem.ClaimMapViews
import Derived.JoinedTies
import Derived.KernelRfl
namespace Go.Proofs.Ytnlkglbpihgcmaa
/- THE CELL 'sum', in the pinned program and in every row, IS THE sha256 OF THE DUMP (.gsa) THAT YtnlkglbpihgcmaaProg.lean LOADS. Nothing in Lean hashes anything: it is a label: what it is worth is what the hold of that sum in a sandbox is worth. -/
noncomputable def Try.pinned : Pinned := { name := "ytnlkglbpihgcmaa", sum := "3cc139e4fc0c91cac606e9e8b762c0b5f5f522a2c70207f98b41488bc9abe301", checked := Try.checked }
namespace Rows
def none {H : Type} : Left H := { results := [], args := [] }

/-- 'laws.FnExactFirstDesk': WHATEVER THE INPUT: true; the input reads as it did. -/
def fnExactFirstDeskSpec : ChangeSpec := { name := "fnExactFirstDesk", fn := fun _ => fun
  | [] => { results := [.lit (.bool true)], args := [] }
  | _ => none }
def fnExactFirstDeskRow : OpenClaim := { program := "ytnlkglbpihgcmaa", sum := "3cc139e4fc0c91cac606e9e8b762c0b5f5f522a2c70207f98b41488bc9abe301", func := "loop.example/g01259/laws.FnExactFirstDesk", spec := "fnExactFirstDesk", apart := false }
def FnExactFirstDeskSaid : Prop := fnExactFirstDeskRow.holds Try.pinned (OpenSpec.ofChange fnExactFirstDeskSpec)

/-- ITS FALSE NEIGHBOUR: 'it returns false'. Refute it at one input. -/
def fnExactFirstDeskWrong : ChangeSpec := { name := "fnExactFirstDesk", fn := fun _ => fun
  | [] => { results := [.lit (.bool false)], args := [] }
  | _ => none }
def FnExactFirstDeskWrongFalsely : Prop := fnExactFirstDeskRow.holds Try.pinned (OpenSpec.ofChange fnExactFirstDeskWrong)

/-- 'laws.FnExactIsPolygon': WHATEVER THE INPUT: true; the input reads as it did. -/
def fnExactIsPolygonSpec : ChangeSpec := { name := "fnExactIsPolygon", fn := fun _ => fun
  | [d] => { results := [.lit (.bool true)], args := [d] }
  | _ => none }
def fnExactIsPolygonRow : OpenClaim := { program := "ytnlkglbpihgcmaa", sum := "3cc139e4fc0c91cac606e9e8b762c0b5f5f522a2c70207f98b41488bc9abe301", func := "loop.example/g01259/laws.FnExactIsPolygon", spec := "fnExactIsPolygon", unfollowed := true, recurses := true, apart := false }
def FnExactIsPolygonSaid : Prop := fnExactIsPolygonRow.holds Try.pinned (OpenSpec.ofChange fnExactIsPolygonSpec)

/-- ITS FALSE NEIGHBOUR: 'it returns false'. Refute it at one input. -/
def fnExactIsPolygonWrong : ChangeSpec := { name := "fnExactIsPolygon", fn := fun _ => fun
  | [d] => { results := [.lit (.bool false)], args := [d] }
  | _ => none }
def FnExactIsPolygonWrongFalsely : Prop := fnExactIsPolygonRow.holds Try.pinned (OpenSpec.ofChange fnExactIsPolygonWrong)

/-- 'laws.FnExactThriceCentre': WHATEVER THE INPUT: true; the input reads as it did. -/
def fnExactThriceCentreSpec : ChangeSpec := { name := "fnExactThriceCentre", fn := fun _ => fun
  | [d] => { results := [.lit (.bool true)], args := [d] }
  | _ => none }
def fnExactThriceCentreRow : OpenClaim := { program := "ytnlkglbpihgcmaa", sum := "3cc139e4fc0c91cac606e9e8b762c0b5f5f522a2c70207f98b41488bc9abe301", func := "loop.example/g01259/laws.FnExactThriceCentre", spec := "fnExactThriceCentre", unfollowed := true, recurses := true, apart := false }
def FnExactThriceCentreSaid : Prop := fnExactThriceCentreRow.holds Try.pinned (OpenSpec.ofChange fnExactThriceCentreSpec)

/-- ITS FALSE NEIGHBOUR: 'it returns false'. Refute it at one input. -/
def fnExactThriceCentreWrong : ChangeSpec := { name := "fnExactThriceCentre", fn := fun _ => fun
  | [d] => { results := [.lit (.bool false)], args := [d] }
  | _ => none }
def FnExactThriceCentreWrongFalsely : Prop := fnExactThriceCentreRow.holds Try.pinned (OpenSpec.ofChange fnExactThriceCentreWrong)

/-- 'laws.FnExactHasCentrePeg': WHATEVER THE INPUT: true; the input reads as it did. -/
def fnExactHasCentrePegSpec : ChangeSpec := { name := "fnExactHasCentrePeg", fn := fun _ => fun
  | [d] => { results := [.lit (.bool true)], args := [d] }
  | _ => none }
def fnExactHasCentrePegRow : OpenClaim := { program := "ytnlkglbpihgcmaa", sum := "3cc139e4fc0c91cac606e9e8b762c0b5f5f522a2c70207f98b41488bc9abe301", func := "loop.example/g01259/laws.FnExactHasCentrePeg", spec := "fnExactHasCentrePeg", unfollowed := true, recurses := true, apart := false }
def FnExactHasCentrePegSaid : Prop := fnExactHasCentrePegRow.holds Try.pinned (OpenSpec.ofChange fnExactHasCentrePegSpec)

/-- ITS FALSE NEIGHBOUR: 'it returns false'. Refute it at one input. -/
def fnExactHasCentrePegWrong : ChangeSpec := { name := "fnExactHasCentrePeg", fn := fun _ => fun
  | [d] => { results := [.lit (.bool false)], args := [d] }
  | _ => none }
def FnExactHasCentrePegWrongFalsely : Prop := fnExactHasCentrePegRow.holds Try.pinned (OpenSpec.ofChange fnExactHasCentrePegWrong)

/-- 'laws.FnExactTwiceArea': WHATEVER THE INPUT: true; the input reads as it did. -/
def fnExactTwiceAreaSpec : ChangeSpec := { name := "fnExactTwiceArea", fn := fun _ => fun
  | [d] => { results := [.lit (.bool true)], args := [d] }
  | _ => none }
def fnExactTwiceAreaRow : OpenClaim := { program := "ytnlkglbpihgcmaa", sum := "3cc139e4fc0c91cac606e9e8b762c0b5f5f522a2c70207f98b41488bc9abe301", func := "loop.example/g01259/laws.FnExactTwiceArea", spec := "fnExactTwiceArea", unfollowed := true, recurses := true, apart := false }
def FnExactTwiceAreaSaid : Prop := fnExactTwiceAreaRow.holds Try.pinned (OpenSpec.ofChange fnExactTwiceAreaSpec)

/-- ITS FALSE NEIGHBOUR: 'it returns false'. Refute it at one input. -/
def fnExactTwiceAreaWrong : ChangeSpec := { name := "fnExactTwiceArea", fn := fun _ => fun
  | [d] => { results := [.lit (.bool false)], args := [d] }
  | _ => none }
def FnExactTwiceAreaWrongFalsely : Prop := fnExactTwiceAreaRow.holds Try.pinned (OpenSpec.ofChange fnExactTwiceAreaWrong)

/-- 'laws.FnExactIsDesk': WHATEVER THE INPUT: true; the input reads as it did. -/
def fnExactIsDeskSpec : ChangeSpec := { name := "fnExactIsDesk", fn := fun _ => fun
  | [d] => { results := [.lit (.bool true)], args := [d] }
  | _ => none }
def fnExactIsDeskRow : OpenClaim := { program := "ytnlkglbpihgcmaa", sum := "3cc139e4fc0c91cac606e9e8b762c0b5f5f522a2c70207f98b41488bc9abe301", func := "loop.example/g01259/laws.FnExactIsDesk", spec := "fnExactIsDesk", unfollowed := true, recurses := true, apart := false }
def FnExactIsDeskSaid : Prop := fnExactIsDeskRow.holds Try.pinned (OpenSpec.ofChange fnExactIsDeskSpec)

/-- ITS FALSE NEIGHBOUR: 'it returns false'. Refute it at one input. -/
def fnExactIsDeskWrong : ChangeSpec := { name := "fnExactIsDesk", fn := fun _ => fun
  | [d] => { results := [.lit (.bool false)], args := [d] }
  | _ => none }
def FnExactIsDeskWrongFalsely : Prop := fnExactIsDeskRow.holds Try.pinned (OpenSpec.ofChange fnExactIsDeskWrong)

/-- 'laws.FnExactBandOfSolutions': WHATEVER THE INPUT: true; the input reads as it did. -/
def fnExactBandOfSolutionsSpec : ChangeSpec := { name := "fnExactBandOfSolutions", fn := fun _ => fun
  | [d] => { results := [.lit (.bool true)], args := [d] }
  | _ => none }
def fnExactBandOfSolutionsRow : OpenClaim := { program := "ytnlkglbpihgcmaa", sum := "3cc139e4fc0c91cac606e9e8b762c0b5f5f522a2c70207f98b41488bc9abe301", func := "loop.example/g01259/laws.FnExactBandOfSolutions", spec := "fnExactBandOfSolutions", unfollowed := true, recurses := true, apart := false }
def FnExactBandOfSolutionsSaid : Prop := fnExactBandOfSolutionsRow.holds Try.pinned (OpenSpec.ofChange fnExactBandOfSolutionsSpec)

/-- ITS FALSE NEIGHBOUR: 'it returns false'. Refute it at one input. -/
def fnExactBandOfSolutionsWrong : ChangeSpec := { name := "fnExactBandOfSolutions", fn := fun _ => fun
  | [d] => { results := [.lit (.bool false)], args := [d] }
  | _ => none }
def FnExactBandOfSolutionsWrongFalsely : Prop := fnExactBandOfSolutionsRow.holds Try.pinned (OpenSpec.ofChange fnExactBandOfSolutionsWrong)

/-- 'laws.FnExactAngleKind': WHATEVER THE INPUT: true; the input reads as it did. -/
def fnExactAngleKindSpec : ChangeSpec := { name := "fnExactAngleKind", fn := fun _ => fun
  | [d] => { results := [.lit (.bool true)], args := [d] }
  | _ => none }
def fnExactAngleKindRow : OpenClaim := { program := "ytnlkglbpihgcmaa", sum := "3cc139e4fc0c91cac606e9e8b762c0b5f5f522a2c70207f98b41488bc9abe301", func := "loop.example/g01259/laws.FnExactAngleKind", spec := "fnExactAngleKind", unfollowed := true, recurses := true, apart := false }
def FnExactAngleKindSaid : Prop := fnExactAngleKindRow.holds Try.pinned (OpenSpec.ofChange fnExactAngleKindSpec)

/-- ITS FALSE NEIGHBOUR: 'it returns false'. Refute it at one input. -/
def fnExactAngleKindWrong : ChangeSpec := { name := "fnExactAngleKind", fn := fun _ => fun
  | [d] => { results := [.lit (.bool false)], args := [d] }
  | _ => none }
def FnExactAngleKindWrongFalsely : Prop := fnExactAngleKindRow.holds Try.pinned (OpenSpec.ofChange fnExactAngleKindWrong)

/-- 'laws.FnExactIsEmptyThree': WHATEVER THE INPUT: true; the input reads as it did. -/
def fnExactIsEmptyThreeSpec : ChangeSpec := { name := "fnExactIsEmptyThree", fn := fun _ => fun
  | [d] => { results := [.lit (.bool true)], args := [d] }
  | _ => none }
def fnExactIsEmptyThreeRow : OpenClaim := { program := "ytnlkglbpihgcmaa", sum := "3cc139e4fc0c91cac606e9e8b762c0b5f5f522a2c70207f98b41488bc9abe301", func := "loop.example/g01259/laws.FnExactIsEmptyThree", spec := "fnExactIsEmptyThree", unfollowed := true, recurses := true, apart := false }
def FnExactIsEmptyThreeSaid : Prop := fnExactIsEmptyThreeRow.holds Try.pinned (OpenSpec.ofChange fnExactIsEmptyThreeSpec)

/-- ITS FALSE NEIGHBOUR: 'it returns false'. Refute it at one input. -/
def fnExactIsEmptyThreeWrong : ChangeSpec := { name := "fnExactIsEmptyThree", fn := fun _ => fun
  | [d] => { results := [.lit (.bool false)], args := [d] }
  | _ => none }
def FnExactIsEmptyThreeWrongFalsely : Prop := fnExactIsEmptyThreeRow.holds Try.pinned (OpenSpec.ofChange fnExactIsEmptyThreeWrong)

/-- 'laws.FnExactBoxOfThree': WHATEVER THE INPUT: true; the input reads as it did. -/
def fnExactBoxOfThreeSpec : ChangeSpec := { name := "fnExactBoxOfThree", fn := fun _ => fun
  | [d] => { results := [.lit (.bool true)], args := [d] }
  | _ => none }
def fnExactBoxOfThreeRow : OpenClaim := { program := "ytnlkglbpihgcmaa", sum := "3cc139e4fc0c91cac606e9e8b762c0b5f5f522a2c70207f98b41488bc9abe301", func := "loop.example/g01259/laws.FnExactBoxOfThree", spec := "fnExactBoxOfThree", unfollowed := true, recurses := true, apart := false }
def FnExactBoxOfThreeSaid : Prop := fnExactBoxOfThreeRow.holds Try.pinned (OpenSpec.ofChange fnExactBoxOfThreeSpec)

/-- ITS FALSE NEIGHBOUR: 'it returns false'. Refute it at one input. -/
def fnExactBoxOfThreeWrong : ChangeSpec := { name := "fnExactBoxOfThree", fn := fun _ => fun
  | [d] => { results := [.lit (.bool false)], args := [d] }
  | _ => none }
def FnExactBoxOfThreeWrongFalsely : Prop := fnExactBoxOfThreeRow.holds Try.pinned (OpenSpec.ofChange fnExactBoxOfThreeWrong)

/-- 'laws.FnExactTrianglesOfCut': WHATEVER THE INPUT: true; the input reads as it did. -/
def fnExactTrianglesOfCutSpec : ChangeSpec := { name := "fnExactTrianglesOfCut", fn := fun _ => fun
  | [d] => { results := [.lit (.bool true)], args := [d] }
  | _ => none }
def fnExactTrianglesOfCutRow : OpenClaim := { program := "ytnlkglbpihgcmaa", sum := "3cc139e4fc0c91cac606e9e8b762c0b5f5f522a2c70207f98b41488bc9abe301", func := "loop.example/g01259/laws.FnExactTrianglesOfCut", spec := "fnExactTrianglesOfCut", unfollowed := true, recurses := true, apart := false }
def FnExactTrianglesOfCutSaid : Prop := fnExactTrianglesOfCutRow.holds Try.pinned (OpenSpec.ofChange fnExactTrianglesOfCutSpec)

/-- ITS FALSE NEIGHBOUR: 'it returns false'. Refute it at one input. -/
def fnExactTrianglesOfCutWrong : ChangeSpec := { name := "fnExactTrianglesOfCut", fn := fun _ => fun
  | [d] => { results := [.lit (.bool false)], args := [d] }
  | _ => none }
def FnExactTrianglesOfCutWrongFalsely : Prop := fnExactTrianglesOfCutRow.holds Try.pinned (OpenSpec.ofChange fnExactTrianglesOfCutWrong)

/-- 'laws.FnExactBoxOf': WHATEVER THE INPUT: true; the input reads as it did. -/
def fnExactBoxOfSpec : ChangeSpec := { name := "fnExactBoxOf", fn := fun _ => fun
  | [d] => { results := [.lit (.bool true)], args := [d] }
  | _ => none }
def fnExactBoxOfRow : OpenClaim := { program := "ytnlkglbpihgcmaa", sum := "3cc139e4fc0c91cac606e9e8b762c0b5f5f522a2c70207f98b41488bc9abe301", func := "loop.example/g01259/laws.FnExactBoxOf", spec := "fnExactBoxOf", unfollowed := true, recurses := true, apart := false }
def FnExactBoxOfSaid : Prop := fnExactBoxOfRow.holds Try.pinned (OpenSpec.ofChange fnExactBoxOfSpec)

/-- ITS FALSE NEIGHBOUR: 'it returns false'. Refute it at one input. -/
def fnExactBoxOfWrong : ChangeSpec := { name := "fnExactBoxOf", fn := fun _ => fun
  | [d] => { results := [.lit (.bool false)], args := [d] }
  | _ => none }
def FnExactBoxOfWrongFalsely : Prop := fnExactBoxOfRow.holds Try.pinned (OpenSpec.ofChange fnExactBoxOfWrong)

/- THE SECOND FORM. 'bulk': how many values and letters a reading holds, each counted each time it is reached (what is shared counts as often as it is met; a slice's spare places count too). A statement '..UptoSaid' is the law's where the arguments, and the package variables that the reading takes, are together of bulk at most 1048576: NARROWER than '..Said'. Prove '..Said' where nothing that the law and all that it calls make is longer than what came in: it says more and counts as full. Else prove '..UptoSaid'. A law counts once. -/
mutual
def uptoBulk {H : Type} : DataW H → Nat
  | .lit (.string bytes) => bytes.length + 1
  | .lit _ => 1
  | .nil => 1
  | .ptr d => uptoBulk d + 1
  | .slice elems spare => uptoBulkAll elems + uptoBulkAll spare + 1
  | .agg parts => uptoBulkAll parts + 1
  | .iface _ d => uptoBulk d + 1
  | .map entries => uptoBulkEntries entries + 1
  | .held _ => 1
def uptoBulkAll {H : Type} : List (DataW H) → Nat
  | [] => 0
  | d :: r => uptoBulk d + uptoBulkAll r
def uptoBulkEntries {H : Type} : List (Lit × DataW H) → Nat
  | [] => 0
  | x :: r => uptoBulkEntry x + uptoBulkEntries r
def uptoBulkEntry {H : Type} : Lit × DataW H → Nat
  | (.string bytes, d) => bytes.length + uptoBulk d + 1
  | (_, d) => uptoBulk d + 1
 end
def uptoSmall : (H : Type) → List (DataW H) → Bool := fun _ ds => decide (uptoBulkAll ds ≤ 1048576)
def OpenSpec.upto (s : _root_.Go.ChangeSpec) : _root_.Go.OpenSpec := { _root_.Go.OpenSpec.ofChange s with cond := some uptoSmall }

/-- 'laws.FnExactFirstDesk', WHERE WHAT IT READS IS OF BULK AT MOST 1048576: true; the input reads as it did. -/
def fnExactFirstDeskUptoRow : OpenClaim := { program := "ytnlkglbpihgcmaa", sum := "3cc139e4fc0c91cac606e9e8b762c0b5f5f522a2c70207f98b41488bc9abe301", func := "loop.example/g01259/laws.FnExactFirstDesk", spec := "fnExactFirstDesk", apart := false, narrowed := true }
def FnExactFirstDeskUptoSaid : Prop := fnExactFirstDeskUptoRow.holds Try.pinned (OpenSpec.upto fnExactFirstDeskSpec)

/-- 'laws.FnExactIsPolygon', WHERE WHAT IT READS IS OF BULK AT MOST 1048576: true; the input reads as it did. -/
def fnExactIsPolygonUptoRow : OpenClaim := { program := "ytnlkglbpihgcmaa", sum := "3cc139e4fc0c91cac606e9e8b762c0b5f5f522a2c70207f98b41488bc9abe301", func := "loop.example/g01259/laws.FnExactIsPolygon", spec := "fnExactIsPolygon", unfollowed := true, recurses := true, apart := false, narrowed := true }
def FnExactIsPolygonUptoSaid : Prop := fnExactIsPolygonUptoRow.holds Try.pinned (OpenSpec.upto fnExactIsPolygonSpec)

/-- 'laws.FnExactThriceCentre', WHERE WHAT IT READS IS OF BULK AT MOST 1048576: true; the input reads as it did. -/
def fnExactThriceCentreUptoRow : OpenClaim := { program := "ytnlkglbpihgcmaa", sum := "3cc139e4fc0c91cac606e9e8b762c0b5f5f522a2c70207f98b41488bc9abe301", func := "loop.example/g01259/laws.FnExactThriceCentre", spec := "fnExactThriceCentre", unfollowed := true, recurses := true, apart := false, narrowed := true }
def FnExactThriceCentreUptoSaid : Prop := fnExactThriceCentreUptoRow.holds Try.pinned (OpenSpec.upto fnExactThriceCentreSpec)

/-- 'laws.FnExactHasCentrePeg', WHERE WHAT IT READS IS OF BULK AT MOST 1048576: true; the input reads as it did. -/
def fnExactHasCentrePegUptoRow : OpenClaim := { program := "ytnlkglbpihgcmaa", sum := "3cc139e4fc0c91cac606e9e8b762c0b5f5f522a2c70207f98b41488bc9abe301", func := "loop.example/g01259/laws.FnExactHasCentrePeg", spec := "fnExactHasCentrePeg", unfollowed := true, recurses := true, apart := false, narrowed := true }
def FnExactHasCentrePegUptoSaid : Prop := fnExactHasCentrePegUptoRow.holds Try.pinned (OpenSpec.upto fnExactHasCentrePegSpec)

/-- 'laws.FnExactTwiceArea', WHERE WHAT IT READS IS OF BULK AT MOST 1048576: true; the input reads as it did. -/
def fnExactTwiceAreaUptoRow : OpenClaim := { program := "ytnlkglbpihgcmaa", sum := "3cc139e4fc0c91cac606e9e8b762c0b5f5f522a2c70207f98b41488bc9abe301", func := "loop.example/g01259/laws.FnExactTwiceArea", spec := "fnExactTwiceArea", unfollowed := true, recurses := true, apart := false, narrowed := true }
def FnExactTwiceAreaUptoSaid : Prop := fnExactTwiceAreaUptoRow.holds Try.pinned (OpenSpec.upto fnExactTwiceAreaSpec)

/-- 'laws.FnExactIsDesk', WHERE WHAT IT READS IS OF BULK AT MOST 1048576: true; the input reads as it did. -/
def fnExactIsDeskUptoRow : OpenClaim := { program := "ytnlkglbpihgcmaa", sum := "3cc139e4fc0c91cac606e9e8b762c0b5f5f522a2c70207f98b41488bc9abe301", func := "loop.example/g01259/laws.FnExactIsDesk", spec := "fnExactIsDesk", unfollowed := true, recurses := true, apart := false, narrowed := true }
def FnExactIsDeskUptoSaid : Prop := fnExactIsDeskUptoRow.holds Try.pinned (OpenSpec.upto fnExactIsDeskSpec)

/-- 'laws.FnExactBandOfSolutions', WHERE WHAT IT READS IS OF BULK AT MOST 1048576: true; the input reads as it did. -/
def fnExactBandOfSolutionsUptoRow : OpenClaim := { program := "ytnlkglbpihgcmaa", sum := "3cc139e4fc0c91cac606e9e8b762c0b5f5f522a2c70207f98b41488bc9abe301", func := "loop.example/g01259/laws.FnExactBandOfSolutions", spec := "fnExactBandOfSolutions", unfollowed := true, recurses := true, apart := false, narrowed := true }
def FnExactBandOfSolutionsUptoSaid : Prop := fnExactBandOfSolutionsUptoRow.holds Try.pinned (OpenSpec.upto fnExactBandOfSolutionsSpec)

/-- 'laws.FnExactAngleKind', WHERE WHAT IT READS IS OF BULK AT MOST 1048576: true; the input reads as it did. -/
def fnExactAngleKindUptoRow : OpenClaim := { program := "ytnlkglbpihgcmaa", sum := "3cc139e4fc0c91cac606e9e8b762c0b5f5f522a2c70207f98b41488bc9abe301", func := "loop.example/g01259/laws.FnExactAngleKind", spec := "fnExactAngleKind", unfollowed := true, recurses := true, apart := false, narrowed := true }
def FnExactAngleKindUptoSaid : Prop := fnExactAngleKindUptoRow.holds Try.pinned (OpenSpec.upto fnExactAngleKindSpec)

/-- 'laws.FnExactIsEmptyThree', WHERE WHAT IT READS IS OF BULK AT MOST 1048576: true; the input reads as it did. -/
def fnExactIsEmptyThreeUptoRow : OpenClaim := { program := "ytnlkglbpihgcmaa", sum := "3cc139e4fc0c91cac606e9e8b762c0b5f5f522a2c70207f98b41488bc9abe301", func := "loop.example/g01259/laws.FnExactIsEmptyThree", spec := "fnExactIsEmptyThree", unfollowed := true, recurses := true, apart := false, narrowed := true }
def FnExactIsEmptyThreeUptoSaid : Prop := fnExactIsEmptyThreeUptoRow.holds Try.pinned (OpenSpec.upto fnExactIsEmptyThreeSpec)

/-- 'laws.FnExactBoxOfThree', WHERE WHAT IT READS IS OF BULK AT MOST 1048576: true; the input reads as it did. -/
def fnExactBoxOfThreeUptoRow : OpenClaim := { program := "ytnlkglbpihgcmaa", sum := "3cc139e4fc0c91cac606e9e8b762c0b5f5f522a2c70207f98b41488bc9abe301", func := "loop.example/g01259/laws.FnExactBoxOfThree", spec := "fnExactBoxOfThree", unfollowed := true, recurses := true, apart := false, narrowed := true }
def FnExactBoxOfThreeUptoSaid : Prop := fnExactBoxOfThreeUptoRow.holds Try.pinned (OpenSpec.upto fnExactBoxOfThreeSpec)

/-- 'laws.FnExactTrianglesOfCut', WHERE WHAT IT READS IS OF BULK AT MOST 1048576: true; the input reads as it did. -/
def fnExactTrianglesOfCutUptoRow : OpenClaim := { program := "ytnlkglbpihgcmaa", sum := "3cc139e4fc0c91cac606e9e8b762c0b5f5f522a2c70207f98b41488bc9abe301", func := "loop.example/g01259/laws.FnExactTrianglesOfCut", spec := "fnExactTrianglesOfCut", unfollowed := true, recurses := true, apart := false, narrowed := true }
def FnExactTrianglesOfCutUptoSaid : Prop := fnExactTrianglesOfCutUptoRow.holds Try.pinned (OpenSpec.upto fnExactTrianglesOfCutSpec)

/-- 'laws.FnExactBoxOf', WHERE WHAT IT READS IS OF BULK AT MOST 1048576: true; the input reads as it did. -/
def fnExactBoxOfUptoRow : OpenClaim := { program := "ytnlkglbpihgcmaa", sum := "3cc139e4fc0c91cac606e9e8b762c0b5f5f522a2c70207f98b41488bc9abe301", func := "loop.example/g01259/laws.FnExactBoxOf", spec := "fnExactBoxOf", unfollowed := true, recurses := true, apart := false, narrowed := true }
def FnExactBoxOfUptoSaid : Prop := fnExactBoxOfUptoRow.holds Try.pinned (OpenSpec.upto fnExactBoxOfSpec)

end Rows
end Go.Proofs.Ytnlkglbpihgcmaa
