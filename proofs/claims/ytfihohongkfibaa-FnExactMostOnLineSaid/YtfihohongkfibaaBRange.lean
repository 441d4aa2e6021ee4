-- thin
/- The least and the greatest value of a list's pegs in a direction, in the reference. -/
import Derived.Test.YtfihohongkfibaaX0
import Derived.Test.YtfihohongkfibaaX8
import Derived.Test.YtfihohongkfibaaBBase
import Derived.Test.YtfihohongkfibaaBCore
import Derived.Test.YtfihohongkfibaaBPoly
import Derived.Test.YtfihohongkfibaaBAsk
import Derived.Test.YtfihohongkfibaaBArea
import Derived.Test.YtfihohongkfibaaBMinMax
namespace Go.Proofs.Ytfihohongkfibaa.B
open Go.RowKit Go.Proofs.Ytfihohongkfibaa.XW Go.Proofs.Ytfihohongkfibaa.X Go.Proofs.YtfihohongkfibaaW.PrintWords Go.Proofs.YtfihohongkfibaaW.PrintLast Go.Proofs.Ytfihohongkfibaa.B
set_option linter.unusedVariables false
set_option linter.unusedSimpArgs false
set_option maxRecDepth 20000

theorem spec_least_eq (a b : Int) : spec_l1Least.f a b = some (mn a b) := by
 unfold spec_l1Least.f mn
 repeat' split
 all_goals first | rfl | omega | (congr 1; omega)
def vl (u v : Int) (p : S_impl_Peg) : Int := u * p.f0 + v * p.f1
theorem vl_bd {u v : Int} {p : S_impl_Peg} (hu : -1000 ≤ u ∧ u ≤ 1000) (hv : -1000 ≤ v ∧ v ≤ 1000) (hp : Sm 1000000 p) : -2000000000 ≤ vl u v p ∧ vl u v p ≤ 2000000000 := by
 unfold Sm at hp
 unfold vl
 have h1 := mul_bd (x := u) (y := p.f0) (A := 1000) (B := 1000000) (by omega) (by omega)
 have h2 := mul_bd (x := v) (y := p.f1) (A := 1000) (B := 1000000) (by omega) (by omega)
 omega
theorem vl_w {u v : Int} {p : S_impl_Peg} (hu : -1000 ≤ u ∧ u ≤ 1000) (hv : -1000 ≤ v ∧ v ≤ 1000) (hp : Sm 1000000 p) : wrap64 ((wrap64 (u * p.f0)) + (wrap64 (v * p.f1))) = vl u v p := by
 unfold Sm at hp
 have h1 := mul_bd (x := u) (y := p.f0) (A := 1000) (B := 1000000) (by omega) (by omega)
 have h2 := mul_bd (x := v) (y := p.f1) (A := 1000) (B := 1000000) (by omega) (by omega)
 unfold vl
 rw [w64 (x := u * p.f0) (by omega), w64 (x := v * p.f1) (by omega), w64 (by omega)]
theorem ev_spec_range (l : List S_impl_Peg) (u v : Int) (hu : -1000 ≤ u ∧ u ≤ 1000) (hv : -1000 ≤ v ∧ v ≤ 1000) (h0 : 0 < l.length) (hn : l.length ≤ 1099511627776) (hp : ∀ i, i < l.length → Sm 1000000 (pt l i)) :
  Ev (fun k => spec_wiRange.f k l u v) (mnN (fun i => vl u v (pt l i)) l.length, mxN (fun i => vl u v (pt l i)) l.length) := by
 unfold spec_wiRange.f
 have e0 : rd_impl_Peg l 0 = pt l 0 := rfl
 simp (disch := omega) only [if_pos, e0, vl_w hu hv (hp 0 h0)]
 have go : ∀ (d i : Nat), i + d = l.length → Ev (fun k => spec_wiRange.l0 k u v (mnN (fun i => vl u v (pt l i)) i) (mxN (fun i => vl u v (pt l i)) i) l l.length i) (mnN (fun i => vl u v (pt l i)) l.length, mxN (fun i => vl u v (pt l i)) l.length) := by
  intro d
  induction d with
  | zero =>
   intro i hi
   refine Ev.succ ?_
   obtain rfl : i = l.length := by omega
   simp (disch := omega) only [spec_wiRange.l0, if_neg]
   exact Ev.now _
  | succ d ih =>
   intro i hi
   refine Ev.succ ?_
   simp (disch := omega) only [spec_wiRange.l0, if_pos, rd_pt, vl_w hu hv (hp i (by omega)), spec_least_eq, spec_most_eq, Option.bind_some, w64]
   exact ih (i + 1) (by omega)
 exact go l.length 0 (by omega)

end Go.Proofs.Ytfihohongkfibaa.B
