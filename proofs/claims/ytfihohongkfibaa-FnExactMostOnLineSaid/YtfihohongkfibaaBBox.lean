-- thin
/- The least and the greatest numbers of a list's pegs. -/
import Derived.Test.YtfihohongkfibaaX0
import Derived.Test.YtfihohongkfibaaX15
import Derived.Test.YtfihohongkfibaaBBase
import Derived.Test.YtfihohongkfibaaBCore
import Derived.Test.YtfihohongkfibaaBPoly
import Derived.Test.YtfihohongkfibaaBAsk
import Derived.Test.YtfihohongkfibaaBMinMax
namespace Go.Proofs.Ytfihohongkfibaa.B
open Go.RowKit Go.Proofs.Ytfihohongkfibaa.XW Go.Proofs.Ytfihohongkfibaa.X Go.Proofs.YtfihohongkfibaaW.PrintWords Go.Proofs.YtfihohongkfibaaW.PrintLast Go.Proofs.Ytfihohongkfibaa.B
set_option linter.unusedVariables false
set_option linter.unusedSimpArgs false
set_option maxRecDepth 20000

theorem ev_impl_box (l : List S_impl_Peg) (h0 : 0 < l.length) (hn : l.length ≤ 1099511627776) :
  Ev (fun k => impl_box.f k l) (mnN (fun i => (pt l i).f0) l.length, mnN (fun i => (pt l i).f1) l.length, mxN (fun i => (pt l i).f0) l.length, mxN (fun i => (pt l i).f1) l.length) := by
 unfold impl_box.f
 simp (disch := omega) only [if_pos]
 have go : ∀ (d i : Nat), i + d = l.length → Ev (fun k => impl_box.l0 k l l.length i (mnN (fun i => (pt l i).f0) i) (mnN (fun i => (pt l i).f1) i) (mxN (fun i => (pt l i).f0) i) (mxN (fun i => (pt l i).f1) i)) (mnN (fun i => (pt l i).f0) l.length, mnN (fun i => (pt l i).f1) l.length, mxN (fun i => (pt l i).f0) l.length, mxN (fun i => (pt l i).f1) l.length) := by
  intro d
  induction d with
  | zero =>
   intro i hi
   refine Ev.succ ?_
   obtain rfl : i = l.length := by omega
   simp (disch := omega) only [impl_box.l0, if_neg]
   exact Ev.now _
  | succ d ih =>
   intro i hi
   refine Ev.succ ?_
   simp (disch := omega) only [impl_box.l0, if_pos, rd_pt, w64]
   exact ih (i + 1) (by omega)
 exact go l.length 0 (by omega)

end Go.Proofs.Ytfihohongkfibaa.B
