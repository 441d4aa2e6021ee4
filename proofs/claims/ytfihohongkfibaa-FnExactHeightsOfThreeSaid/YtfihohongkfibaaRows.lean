/-
  No cell of these rows narrows 'for every input' (looked for: loops, veiled, ifaces, maps, wideKeys, modest, calm, conditions, laid).
  DERIVED. THE GIVEN ROWS OF THIS SEAT. 12 by the template 'for every input the law returns true; each argument reads behind the call as it read before'; 0 by the template 'total and deterministic' (their statements: YtfihohongkfibaaTotals.lean).
  GIVEN WITH THE SEED: the statements are not yours to turn. If you find one false, say at which input.
  Laid BY PROGRAM, IN A SANDBOX (cutbox-rows.mjs): the forced cells as the released guide's own fill.sh prints them over the translation a95786bcdee15526… (all of the seat's roots in one cut). By AI agents, Wed Nov 11 2026. No macro, syntax, notation, axiom, sorry.
-/
import Derived.Test.YtfihohongkfibaaChecked
import GoSem.Claim
import GoSem.ClaimJoined
import GoSem.ClaimMapViews
import Derived.JoinedTies
import Derived.KernelRfl
namespace Go.Proofs.Ytfihohongkfibaa
/- THE CELL 'sum', in the pinned program and in every row, IS THE sha256 OF THE DUMP (.gsa) THAT YtfihohongkfibaaProg.lean LOADS. Nothing in Lean hashes anything: it is a label: what it is worth is what the hold of that sum in a sandbox is worth. -/
noncomputable def Try.pinned : Pinned := { name := "ytfihohongkfibaa", sum := "a95786bcdee15526cb8dc2e8682893d4492926da85f6a09861c87b15c269848f", checked := Try.checked }
namespace Rows
def none {H : Type} : Left H := { results := [], args := [] }

/-- 'laws.FnExactMovePolygon': WHATEVER THE INPUT: true; the input reads as it did. -/
def fnExactMovePolygonSpec : ChangeSpec := { name := "fnExactMovePolygon", fn := fun _ => fun
  | [d1, d2, d3] => { results := [.lit (.bool true)], args := [d1, d2, d3] }
  | _ => none }
def fnExactMovePolygonRow : OpenClaim := { program := "ytfihohongkfibaa", sum := "a95786bcdee15526cb8dc2e8682893d4492926da85f6a09861c87b15c269848f", func := "loop.example/g01259/laws.FnExactMovePolygon", spec := "fnExactMovePolygon", unfollowed := true, recurses := true, apart := false }
def FnExactMovePolygonSaid : Prop := fnExactMovePolygonRow.holds Try.pinned (OpenSpec.ofChange fnExactMovePolygonSpec)

/-- ITS FALSE NEIGHBOUR: 'it returns false'. Refute it at one input. -/
def fnExactMovePolygonWrong : ChangeSpec := { name := "fnExactMovePolygon", fn := fun _ => fun
  | [d1, d2, d3] => { results := [.lit (.bool false)], args := [d1, d2, d3] }
  | _ => none }
def FnExactMovePolygonWrongFalsely : Prop := fnExactMovePolygonRow.holds Try.pinned (OpenSpec.ofChange fnExactMovePolygonWrong)

/-- 'laws.FnExactGrowThree': WHATEVER THE INPUT: true; the input reads as it did. -/
def fnExactGrowThreeSpec : ChangeSpec := { name := "fnExactGrowThree", fn := fun _ => fun
  | [d1, d2] => { results := [.lit (.bool true)], args := [d1, d2] }
  | _ => none }
def fnExactGrowThreeRow : OpenClaim := { program := "ytfihohongkfibaa", sum := "a95786bcdee15526cb8dc2e8682893d4492926da85f6a09861c87b15c269848f", func := "loop.example/g01259/laws.FnExactGrowThree", spec := "fnExactGrowThree", unfollowed := true, recurses := true, apart := false }
def FnExactGrowThreeSaid : Prop := fnExactGrowThreeRow.holds Try.pinned (OpenSpec.ofChange fnExactGrowThreeSpec)

/-- ITS FALSE NEIGHBOUR: 'it returns false'. Refute it at one input. -/
def fnExactGrowThreeWrong : ChangeSpec := { name := "fnExactGrowThree", fn := fun _ => fun
  | [d1, d2] => { results := [.lit (.bool false)], args := [d1, d2] }
  | _ => none }
def FnExactGrowThreeWrongFalsely : Prop := fnExactGrowThreeRow.holds Try.pinned (OpenSpec.ofChange fnExactGrowThreeWrong)

/-- 'laws.FnExactMoveCorners': WHATEVER THE INPUT: true; the input reads as it did. -/
def fnExactMoveCornersSpec : ChangeSpec := { name := "fnExactMoveCorners", fn := fun _ => fun
  | [d1, d2] => { results := [.lit (.bool true)], args := [d1, d2] }
  | _ => none }
def fnExactMoveCornersRow : OpenClaim := { program := "ytfihohongkfibaa", sum := "a95786bcdee15526cb8dc2e8682893d4492926da85f6a09861c87b15c269848f", func := "loop.example/g01259/laws.FnExactMoveCorners", spec := "fnExactMoveCorners", unfollowed := true, recurses := true, apart := false }
def FnExactMoveCornersSaid : Prop := fnExactMoveCornersRow.holds Try.pinned (OpenSpec.ofChange fnExactMoveCornersSpec)

/-- ITS FALSE NEIGHBOUR: 'it returns false'. Refute it at one input. -/
def fnExactMoveCornersWrong : ChangeSpec := { name := "fnExactMoveCorners", fn := fun _ => fun
  | [d1, d2] => { results := [.lit (.bool false)], args := [d1, d2] }
  | _ => none }
def FnExactMoveCornersWrongFalsely : Prop := fnExactMoveCornersRow.holds Try.pinned (OpenSpec.ofChange fnExactMoveCornersWrong)

/-- 'laws.FnExactHeightsOfThree': WHATEVER THE INPUT: true; the input reads as it did. -/
def fnExactHeightsOfThreeSpec : ChangeSpec := { name := "fnExactHeightsOfThree", fn := fun _ => fun
  | [d] => { results := [.lit (.bool true)], args := [d] }
  | _ => none }
def fnExactHeightsOfThreeRow : OpenClaim := { program := "ytfihohongkfibaa", sum := "a95786bcdee15526cb8dc2e8682893d4492926da85f6a09861c87b15c269848f", func := "loop.example/g01259/laws.FnExactHeightsOfThree", spec := "fnExactHeightsOfThree", unfollowed := true, recurses := true, apart := false }
def FnExactHeightsOfThreeSaid : Prop := fnExactHeightsOfThreeRow.holds Try.pinned (OpenSpec.ofChange fnExactHeightsOfThreeSpec)

/-- ITS FALSE NEIGHBOUR: 'it returns false'. Refute it at one input. -/
def fnExactHeightsOfThreeWrong : ChangeSpec := { name := "fnExactHeightsOfThree", fn := fun _ => fun
  | [d] => { results := [.lit (.bool false)], args := [d] }
  | _ => none }
def FnExactHeightsOfThreeWrongFalsely : Prop := fnExactHeightsOfThreeRow.holds Try.pinned (OpenSpec.ofChange fnExactHeightsOfThreeWrong)

/-- 'laws.FnExactSplitThree': WHATEVER THE INPUT: true; the input reads as it did. -/
def fnExactSplitThreeSpec : ChangeSpec := { name := "fnExactSplitThree", fn := fun _ => fun
  | [d1, d2] => { results := [.lit (.bool true)], args := [d1, d2] }
  | _ => none }
def fnExactSplitThreeRow : OpenClaim := { program := "ytfihohongkfibaa", sum := "a95786bcdee15526cb8dc2e8682893d4492926da85f6a09861c87b15c269848f", func := "loop.example/g01259/laws.FnExactSplitThree", spec := "fnExactSplitThree", unfollowed := true, recurses := true, apart := false }
def FnExactSplitThreeSaid : Prop := fnExactSplitThreeRow.holds Try.pinned (OpenSpec.ofChange fnExactSplitThreeSpec)

/-- ITS FALSE NEIGHBOUR: 'it returns false'. Refute it at one input. -/
def fnExactSplitThreeWrong : ChangeSpec := { name := "fnExactSplitThree", fn := fun _ => fun
  | [d1, d2] => { results := [.lit (.bool false)], args := [d1, d2] }
  | _ => none }
def FnExactSplitThreeWrongFalsely : Prop := fnExactSplitThreeRow.holds Try.pinned (OpenSpec.ofChange fnExactSplitThreeWrong)

/-- 'laws.FnExactMostOnLine': WHATEVER THE INPUT: true; the input reads as it did. -/
def fnExactMostOnLineSpec : ChangeSpec := { name := "fnExactMostOnLine", fn := fun _ => fun
  | [d1, d2, d3] => { results := [.lit (.bool true)], args := [d1, d2, d3] }
  | _ => none }
def fnExactMostOnLineRow : OpenClaim := { program := "ytfihohongkfibaa", sum := "a95786bcdee15526cb8dc2e8682893d4492926da85f6a09861c87b15c269848f", func := "loop.example/g01259/laws.FnExactMostOnLine", spec := "fnExactMostOnLine", unfollowed := true, recurses := true, apart := false }
def FnExactMostOnLineSaid : Prop := fnExactMostOnLineRow.holds Try.pinned (OpenSpec.ofChange fnExactMostOnLineSpec)

/-- ITS FALSE NEIGHBOUR: 'it returns false'. Refute it at one input. -/
def fnExactMostOnLineWrong : ChangeSpec := { name := "fnExactMostOnLine", fn := fun _ => fun
  | [d1, d2, d3] => { results := [.lit (.bool false)], args := [d1, d2, d3] }
  | _ => none }
def FnExactMostOnLineWrongFalsely : Prop := fnExactMostOnLineRow.holds Try.pinned (OpenSpec.ofChange fnExactMostOnLineWrong)

/-- 'laws.FnExactKindOfPolygon': WHATEVER THE INPUT: true; the input reads as it did. -/
def fnExactKindOfPolygonSpec : ChangeSpec := { name := "fnExactKindOfPolygon", fn := fun _ => fun
  | [d] => { results := [.lit (.bool true)], args := [d] }
  | _ => none }
def fnExactKindOfPolygonRow : OpenClaim := { program := "ytfihohongkfibaa", sum := "a95786bcdee15526cb8dc2e8682893d4492926da85f6a09861c87b15c269848f", func := "loop.example/g01259/laws.FnExactKindOfPolygon", spec := "fnExactKindOfPolygon", unfollowed := true, recurses := true, apart := false }
def FnExactKindOfPolygonSaid : Prop := fnExactKindOfPolygonRow.holds Try.pinned (OpenSpec.ofChange fnExactKindOfPolygonSpec)

/-- ITS FALSE NEIGHBOUR: 'it returns false'. Refute it at one input. -/
def fnExactKindOfPolygonWrong : ChangeSpec := { name := "fnExactKindOfPolygon", fn := fun _ => fun
  | [d] => { results := [.lit (.bool false)], args := [d] }
  | _ => none }
def FnExactKindOfPolygonWrongFalsely : Prop := fnExactKindOfPolygonRow.holds Try.pinned (OpenSpec.ofChange fnExactKindOfPolygonWrong)

/-- 'laws.FnExactAreAlike': WHATEVER THE INPUT: true; the input reads as it did. -/
def fnExactAreAlikeSpec : ChangeSpec := { name := "fnExactAreAlike", fn := fun _ => fun
  | [d1, d2] => { results := [.lit (.bool true)], args := [d1, d2] }
  | _ => none }
def fnExactAreAlikeRow : OpenClaim := { program := "ytfihohongkfibaa", sum := "a95786bcdee15526cb8dc2e8682893d4492926da85f6a09861c87b15c269848f", func := "loop.example/g01259/laws.FnExactAreAlike", spec := "fnExactAreAlike", unfollowed := true, recurses := true, apart := false }
def FnExactAreAlikeSaid : Prop := fnExactAreAlikeRow.holds Try.pinned (OpenSpec.ofChange fnExactAreAlikeSpec)

/-- ITS FALSE NEIGHBOUR: 'it returns false'. Refute it at one input. -/
def fnExactAreAlikeWrong : ChangeSpec := { name := "fnExactAreAlike", fn := fun _ => fun
  | [d1, d2] => { results := [.lit (.bool false)], args := [d1, d2] }
  | _ => none }
def FnExactAreAlikeWrongFalsely : Prop := fnExactAreAlikeRow.holds Try.pinned (OpenSpec.ofChange fnExactAreAlikeWrong)

/-- 'laws.FnExactCountKinds': WHATEVER THE INPUT: true; the input reads as it did. -/
def fnExactCountKindsSpec : ChangeSpec := { name := "fnExactCountKinds", fn := fun _ => fun
  | [d] => { results := [.lit (.bool true)], args := [d] }
  | _ => none }
def fnExactCountKindsRow : OpenClaim := { program := "ytfihohongkfibaa", sum := "a95786bcdee15526cb8dc2e8682893d4492926da85f6a09861c87b15c269848f", func := "loop.example/g01259/laws.FnExactCountKinds", spec := "fnExactCountKinds", unfollowed := true, recurses := true, apart := false }
def FnExactCountKindsSaid : Prop := fnExactCountKindsRow.holds Try.pinned (OpenSpec.ofChange fnExactCountKindsSpec)

/-- ITS FALSE NEIGHBOUR: 'it returns false'. Refute it at one input. -/
def fnExactCountKindsWrong : ChangeSpec := { name := "fnExactCountKinds", fn := fun _ => fun
  | [d] => { results := [.lit (.bool false)], args := [d] }
  | _ => none }
def FnExactCountKindsWrongFalsely : Prop := fnExactCountKindsRow.holds Try.pinned (OpenSpec.ofChange fnExactCountKindsWrong)

/-- 'laws.FnExactKindsOfArea': WHATEVER THE INPUT: true; the input reads as it did. -/
def fnExactKindsOfAreaSpec : ChangeSpec := { name := "fnExactKindsOfArea", fn := fun _ => fun
  | [d] => { results := [.lit (.bool true)], args := [d] }
  | _ => none }
def fnExactKindsOfAreaRow : OpenClaim := { program := "ytfihohongkfibaa", sum := "a95786bcdee15526cb8dc2e8682893d4492926da85f6a09861c87b15c269848f", func := "loop.example/g01259/laws.FnExactKindsOfArea", spec := "fnExactKindsOfArea", unfollowed := true, recurses := true, apart := false }
def FnExactKindsOfAreaSaid : Prop := fnExactKindsOfAreaRow.holds Try.pinned (OpenSpec.ofChange fnExactKindsOfAreaSpec)

/-- ITS FALSE NEIGHBOUR: 'it returns false'. Refute it at one input. -/
def fnExactKindsOfAreaWrong : ChangeSpec := { name := "fnExactKindsOfArea", fn := fun _ => fun
  | [d] => { results := [.lit (.bool false)], args := [d] }
  | _ => none }
def FnExactKindsOfAreaWrongFalsely : Prop := fnExactKindsOfAreaRow.holds Try.pinned (OpenSpec.ofChange fnExactKindsOfAreaWrong)

/-- 'laws.FnExactMoveBetween': WHATEVER THE INPUT: true; the input reads as it did. -/
def fnExactMoveBetweenSpec : ChangeSpec := { name := "fnExactMoveBetween", fn := fun _ => fun
  | [d1, d2] => { results := [.lit (.bool true)], args := [d1, d2] }
  | _ => none }
def fnExactMoveBetweenRow : OpenClaim := { program := "ytfihohongkfibaa", sum := "a95786bcdee15526cb8dc2e8682893d4492926da85f6a09861c87b15c269848f", func := "loop.example/g01259/laws.FnExactMoveBetween", spec := "fnExactMoveBetween", unfollowed := true, recurses := true, apart := false }
def FnExactMoveBetweenSaid : Prop := fnExactMoveBetweenRow.holds Try.pinned (OpenSpec.ofChange fnExactMoveBetweenSpec)

/-- ITS FALSE NEIGHBOUR: 'it returns false'. Refute it at one input. -/
def fnExactMoveBetweenWrong : ChangeSpec := { name := "fnExactMoveBetween", fn := fun _ => fun
  | [d1, d2] => { results := [.lit (.bool false)], args := [d1, d2] }
  | _ => none }
def FnExactMoveBetweenWrongFalsely : Prop := fnExactMoveBetweenRow.holds Try.pinned (OpenSpec.ofChange fnExactMoveBetweenWrong)

/-- 'laws.FnExactInCircle': WHATEVER THE INPUT: true; the input reads as it did. -/
def fnExactInCircleSpec : ChangeSpec := { name := "fnExactInCircle", fn := fun _ => fun
  | [d1, d2] => { results := [.lit (.bool true)], args := [d1, d2] }
  | _ => none }
def fnExactInCircleRow : OpenClaim := { program := "ytfihohongkfibaa", sum := "a95786bcdee15526cb8dc2e8682893d4492926da85f6a09861c87b15c269848f", func := "loop.example/g01259/laws.FnExactInCircle", spec := "fnExactInCircle", unfollowed := true, recurses := true, apart := false }
def FnExactInCircleSaid : Prop := fnExactInCircleRow.holds Try.pinned (OpenSpec.ofChange fnExactInCircleSpec)

/-- ITS FALSE NEIGHBOUR: 'it returns false'. Refute it at one input. -/
def fnExactInCircleWrong : ChangeSpec := { name := "fnExactInCircle", fn := fun _ => fun
  | [d1, d2] => { results := [.lit (.bool false)], args := [d1, d2] }
  | _ => none }
def FnExactInCircleWrongFalsely : Prop := fnExactInCircleRow.holds Try.pinned (OpenSpec.ofChange fnExactInCircleWrong)

/- THE SECOND FORM. 'bulk': how many values and letters a reading holds, each counted each time it is reached (what is shared counts as often as it is met; a slice's spare places count too). A statement '..UptoSaid' is the law's where the arguments, and the package variables that the reading takes, are together of bulk at most 1048576: NARROWER than '..Said'. Prove '..Said' where nothing that the law and all that it calls make is longer than what came in: it says more and counts as full. Else prove '..UptoSaid'. A law counts once. -/
mutual
def uptoBulk {H : Type} : DataW H → Nat
  | .lit (.string bytes) => bytes.length + 1
  | .lit _ => 1
  | .nil => 1
  | .ptr d => uptoBulk d + 1
  | .slice elems spare => uptoBulkAll elems + uptoBulkAll spare + 1
  | .agg parts => uptoBulkAll parts + 1
  | .iface _ d => uptoBulk d + 1
  | .map entries => uptoBulkEntries entries + 1
  | .held _ => 1
def uptoBulkAll {H : Type} : List (DataW H) → Nat
  | [] => 0
  | d :: r => uptoBulk d + uptoBulkAll r
def uptoBulkEntries {H : Type} : List (Lit × DataW H) → Nat
  | [] => 0
  | x :: r => uptoBulkEntry x + uptoBulkEntries r
def uptoBulkEntry {H : Type} : Lit × DataW H → Nat
  | (.string bytes, d) => bytes.length + uptoBulk d + 1
  | (_, d) => uptoBulk d + 1
 end
def uptoSmall : (H : Type) → List (DataW H) → Bool := fun _ ds => decide (uptoBulkAll ds ≤ 1048576)
def OpenSpec.upto (s : _root_.Go.ChangeSpec) : _root_.Go.OpenSpec := { _root_.Go.OpenSpec.ofChange s with cond := some uptoSmall }

/-- 'laws.FnExactMovePolygon', WHERE WHAT IT READS IS OF BULK AT MOST 1048576: true; the input reads as it did. -/
def fnExactMovePolygonUptoRow : OpenClaim := { program := "ytfihohongkfibaa", sum := "a95786bcdee15526cb8dc2e8682893d4492926da85f6a09861c87b15c269848f", func := "loop.example/g01259/laws.FnExactMovePolygon", spec := "fnExactMovePolygon", unfollowed := true, recurses := true, apart := false, narrowed := true }
def FnExactMovePolygonUptoSaid : Prop := fnExactMovePolygonUptoRow.holds Try.pinned (OpenSpec.upto fnExactMovePolygonSpec)

/-- 'laws.FnExactGrowThree', WHERE WHAT IT READS IS OF BULK AT MOST 1048576: true; the input reads as it did. -/
def fnExactGrowThreeUptoRow : OpenClaim := { program := "ytfihohongkfibaa", sum := "a95786bcdee15526cb8dc2e8682893d4492926da85f6a09861c87b15c269848f", func := "loop.example/g01259/laws.FnExactGrowThree", spec := "fnExactGrowThree", unfollowed := true, recurses := true, apart := false, narrowed := true }
def FnExactGrowThreeUptoSaid : Prop := fnExactGrowThreeUptoRow.holds Try.pinned (OpenSpec.upto fnExactGrowThreeSpec)

/-- 'laws.FnExactMoveCorners', WHERE WHAT IT READS IS OF BULK AT MOST 1048576: true; the input reads as it did. -/
def fnExactMoveCornersUptoRow : OpenClaim := { program := "ytfihohongkfibaa", sum := "a95786bcdee15526cb8dc2e8682893d4492926da85f6a09861c87b15c269848f", func := "loop.example/g01259/laws.FnExactMoveCorners", spec := "fnExactMoveCorners", unfollowed := true, recurses := true, apart := false, narrowed := true }
def FnExactMoveCornersUptoSaid : Prop := fnExactMoveCornersUptoRow.holds Try.pinned (OpenSpec.upto fnExactMoveCornersSpec)

/-- 'laws.FnExactHeightsOfThree', WHERE WHAT IT READS IS OF BULK AT MOST 1048576: true; the input reads as it did. -/
def fnExactHeightsOfThreeUptoRow : OpenClaim := { program := "ytfihohongkfibaa", sum := "a95786bcdee15526cb8dc2e8682893d4492926da85f6a09861c87b15c269848f", func := "loop.example/g01259/laws.FnExactHeightsOfThree", spec := "fnExactHeightsOfThree", unfollowed := true, recurses := true, apart := false, narrowed := true }
def FnExactHeightsOfThreeUptoSaid : Prop := fnExactHeightsOfThreeUptoRow.holds Try.pinned (OpenSpec.upto fnExactHeightsOfThreeSpec)

/-- 'laws.FnExactSplitThree', WHERE WHAT IT READS IS OF BULK AT MOST 1048576: true; the input reads as it did. -/
def fnExactSplitThreeUptoRow : OpenClaim := { program := "ytfihohongkfibaa", sum := "a95786bcdee15526cb8dc2e8682893d4492926da85f6a09861c87b15c269848f", func := "loop.example/g01259/laws.FnExactSplitThree", spec := "fnExactSplitThree", unfollowed := true, recurses := true, apart := false, narrowed := true }
def FnExactSplitThreeUptoSaid : Prop := fnExactSplitThreeUptoRow.holds Try.pinned (OpenSpec.upto fnExactSplitThreeSpec)

/-- 'laws.FnExactMostOnLine', WHERE WHAT IT READS IS OF BULK AT MOST 1048576: true; the input reads as it did. -/
def fnExactMostOnLineUptoRow : OpenClaim := { program := "ytfihohongkfibaa", sum := "a95786bcdee15526cb8dc2e8682893d4492926da85f6a09861c87b15c269848f", func := "loop.example/g01259/laws.FnExactMostOnLine", spec := "fnExactMostOnLine", unfollowed := true, recurses := true, apart := false, narrowed := true }
def FnExactMostOnLineUptoSaid : Prop := fnExactMostOnLineUptoRow.holds Try.pinned (OpenSpec.upto fnExactMostOnLineSpec)

/-- 'laws.FnExactKindOfPolygon', WHERE WHAT IT READS IS OF BULK AT MOST 1048576: true; the input reads as it did. -/
def fnExactKindOfPolygonUptoRow : OpenClaim := { program := "ytfihohongkfibaa", sum := "a95786bcdee15526cb8dc2e8682893d4492926da85f6a09861c87b15c269848f", func := "loop.example/g01259/laws.FnExactKindOfPolygon", spec := "fnExactKindOfPolygon", unfollowed := true, recurses := true, apart := false, narrowed := true }
def FnExactKindOfPolygonUptoSaid : Prop := fnExactKindOfPolygonUptoRow.holds Try.pinned (OpenSpec.upto fnExactKindOfPolygonSpec)

/-- 'laws.FnExactAreAlike', WHERE WHAT IT READS IS OF BULK AT MOST 1048576: true; the input reads as it did. -/
def fnExactAreAlikeUptoRow : OpenClaim := { program := "ytfihohongkfibaa", sum := "a95786bcdee15526cb8dc2e8682893d4492926da85f6a09861c87b15c269848f", func := "loop.example/g01259/laws.FnExactAreAlike", spec := "fnExactAreAlike", unfollowed := true, recurses := true, apart := false, narrowed := true }
def FnExactAreAlikeUptoSaid : Prop := fnExactAreAlikeUptoRow.holds Try.pinned (OpenSpec.upto fnExactAreAlikeSpec)

/-- 'laws.FnExactCountKinds', WHERE WHAT IT READS IS OF BULK AT MOST 1048576: true; the input reads as it did. -/
def fnExactCountKindsUptoRow : OpenClaim := { program := "ytfihohongkfibaa", sum := "a95786bcdee15526cb8dc2e8682893d4492926da85f6a09861c87b15c269848f", func := "loop.example/g01259/laws.FnExactCountKinds", spec := "fnExactCountKinds", unfollowed := true, recurses := true, apart := false, narrowed := true }
def FnExactCountKindsUptoSaid : Prop := fnExactCountKindsUptoRow.holds Try.pinned (OpenSpec.upto fnExactCountKindsSpec)

/-- 'laws.FnExactKindsOfArea', WHERE WHAT IT READS IS OF BULK AT MOST 1048576: true; the input reads as it did. -/
def fnExactKindsOfAreaUptoRow : OpenClaim := { program := "ytfihohongkfibaa", sum := "a95786bcdee15526cb8dc2e8682893d4492926da85f6a09861c87b15c269848f", func := "loop.example/g01259/laws.FnExactKindsOfArea", spec := "fnExactKindsOfArea", unfollowed := true, recurses := true, apart := false, narrowed := true }
def FnExactKindsOfAreaUptoSaid : Prop := fnExactKindsOfAreaUptoRow.holds Try.pinned (OpenSpec.upto fnExactKindsOfAreaSpec)

/-- 'laws.FnExactMoveBetween', WHERE WHAT IT READS IS OF BULK AT MOST 1048576: true; the input reads as it did. -/
def fnExactMoveBetweenUptoRow : OpenClaim := { program := "ytfihohongkfibaa", sum := "a95786bcdee15526cb8dc2e8682893d4492926da85f6a09861c87b15c269848f", func := "loop.example/g01259/laws.FnExactMoveBetween", spec := "fnExactMoveBetween", unfollowed := true, recurses := true, apart := false, narrowed := true }
def FnExactMoveBetweenUptoSaid : Prop := fnExactMoveBetweenUptoRow.holds Try.pinned (OpenSpec.upto fnExactMoveBetweenSpec)

/-- 'laws.FnExactInCircle', WHERE WHAT IT READS IS OF BULK AT MOST 1048576: true; the input reads as it did. -/
def fnExactInCircleUptoRow : OpenClaim := { program := "ytfihohongkfibaa", sum := "a95786bcdee15526cb8dc2e8682893d4492926da85f6a09861c87b15c269848f", func := "loop.example/g01259/laws.FnExactInCircle", spec := "fnExactInCircle", unfollowed := true, recurses := true, apart := false, narrowed := true }
def FnExactInCircleUptoSaid : Prop := fnExactInCircleUptoRow.holds Try.pinned (OpenSpec.upto fnExactInCircleSpec)

end Rows
end Go.Proofs.Ytfihohongkfibaa
