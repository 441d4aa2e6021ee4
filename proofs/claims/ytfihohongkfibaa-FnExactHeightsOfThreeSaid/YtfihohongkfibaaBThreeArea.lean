-- thin
/- Twice the area of a triangle is not 0. -/
import Derived.Test.YtfihohongkfibaaX0
import Derived.Test.YtfihohongkfibaaBBase
import Derived.Test.YtfihohongkfibaaBCore
import Derived.Test.YtfihohongkfibaaBPoly
import Derived.Test.YtfihohongkfibaaBAsk
import Derived.Test.YtfihohongkfibaaBArea
namespace Go.Proofs.Ytfihohongkfibaa.B
open Go.RowKit Go.Proofs.Ytfihohongkfibaa.XW Go.Proofs.Ytfihohongkfibaa.X Go.Proofs.YtfihohongkfibaaW.PrintWords Go.Proofs.YtfihohongkfibaaW.PrintLast Go.Proofs.Ytfihohongkfibaa.B
set_option linter.unusedVariables false
set_option linter.unusedSimpArgs false
set_option maxRecDepth 20000

theorem ar_three {l : List S_impl_Peg} (h3 : l.length = 3) : ar l = tn (pt l 0) (pt l 1) (pt l 2) := by
 rw [← ar_eq l (by omega), h3]
 show 0 + tn (pt l 0) (pt l (0 + 1)) (pt l (0 + 2)) = _
 rw [Int.zero_add]
theorem ar_ne {l : List S_impl_Peg} (h3 : l.length = 3) (ok : Poly l) : ar l ≠ 0 := by
 have := ok.turns 1 (by omega)
 rw [ar_three h3]
 have e1 : pv l.length 1 = 0 := by unfold pv; simp
 have e2 : nx l.length 1 = 2 := by unfold nx; rw [if_neg (by omega)]
 rw [e1, e2] at this
 exact this

end Go.Proofs.Ytfihohongkfibaa.B
