-- thin
/- Directions, and how far a list's pegs reach in one. -/
import Derived.Test.YtfihohongkfibaaX0
import Derived.Test.YtfihohongkfibaaX6
import Derived.Test.YtfihohongkfibaaX14
import Derived.Test.YtfihohongkfibaaBBase
import Derived.Test.YtfihohongkfibaaBCore
import Derived.Test.YtfihohongkfibaaBPoly
import Derived.Test.YtfihohongkfibaaBAsk
import Derived.Test.YtfihohongkfibaaBSteps
import Derived.Test.YtfihohongkfibaaBMinMax
import Derived.Test.YtfihohongkfibaaBRange
namespace Go.Proofs.Ytfihohongkfibaa.B
open Go.RowKit Go.Proofs.Ytfihohongkfibaa.XW Go.Proofs.Ytfihohongkfibaa.X Go.Proofs.YtfihohongkfibaaW.PrintWords Go.Proofs.YtfihohongkfibaaW.PrintLast Go.Proofs.Ytfihohongkfibaa.B
set_option linter.unusedVariables false
set_option linter.unusedSimpArgs false
set_option maxRecDepth 20000

noncomputable def dirB (u v : Int) : Bool := if (decide (-200 ≤ u) && decide (u ≤ 200)) = true then (if (decide (-200 ≤ v) && decide (v ≤ 200)) = true then gc u v == 1 else false) else false
theorem dirB_bd {u v : Int} (h : dirB u v = true) : (-200 ≤ u ∧ u ≤ 200) ∧ (-200 ≤ v ∧ v ≤ 200) := by
 unfold dirB at h
 split at h
 ·rename_i h1
  split at h
  ·rename_i h2
   simp only [Bool.and_eq_true, decide_eq_true_eq] at h1 h2
   exact ⟨h1, h2⟩
  ·cases h
 ·cases h
theorem ev_spec_dir (u v : Int) : Ev (fun k => spec_wiDirection.f k u v) (dirB u v) := by
 unfold spec_wiDirection.f dirB
 simp only [spec_in_eq, Option.bind_some]
 split
 ·rename_i h1
  split
  ·rename_i h2
   simp only [Bool.and_eq_true, decide_eq_true_eq] at h1 h2
   exact Ev.bind (ev_spec_common u v (by omega) (by omega)) (Ev.now _)
  ·exact Ev.now _
 ·exact Ev.now _
theorem ev_impl_dir (u v : Int) : Ev (fun k => impl_isDirection.f k u v) (dirB u v) := by
 unfold impl_isDirection.f dirB
 simp only [impl_within_eq, Option.bind_some]
 split
 ·rename_i h1
  split
  ·rename_i h2
   simp only [Bool.and_eq_true, decide_eq_true_eq] at h1 h2
   exact Ev.bind (ev_impl_divisor u v (by omega) (by omega)) (Ev.now _)
  ·exact Ev.now _
 ·exact Ev.now _
noncomputable def wideB (l : List S_impl_Peg) (u v : Int) : Bool := if good l = true then dirB u v else false
theorem wideB_iff {l : List S_impl_Peg} {u v : Int} (h : wideB l u v = true) : Poly l ∧ dirB u v = true := by
 unfold wideB at h
 split at h
 ·rename_i hg
  exact ⟨good_iff.1 hg, h⟩
 ·cases h
theorem ev_spec_wide (l : List S_impl_Peg) (u v : Int) : Ev (fun k => spec_wiAsked.f k l u v) (wideB l u v) := by
 unfold spec_wiAsked.f wideB
 exact askS l (fun ok => Ev.bind (ev_spec_dir u v) (Ev.now _)) (Ev.now _)
theorem ev_impl_wide (l : List S_impl_Peg) (u v : Int) : Ev (fun k => impl_isWide.f k l u v) (wideB l u v) := by
 unfold impl_isWide.f wideB
 exact askI l (fun ok => Ev.bind (ev_impl_dir u v) (Ev.now _)) (Ev.now _)
theorem impl_value_eq {u v : Int} {p : S_impl_Peg} (hu : -1000 ≤ u ∧ u ≤ 1000) (hv : -1000 ≤ v ∧ v ≤ 1000) (hp : Sm 1000000 p) : impl_value.f u v p.f0 p.f1 = some (vl u v p) := by
 unfold impl_value.f
 rw [vl_w hu hv hp]
theorem ev_impl_extent (l : List S_impl_Peg) (u v : Int) (hu : -1000 ≤ u ∧ u ≤ 1000) (hv : -1000 ≤ v ∧ v ≤ 1000) (h0 : 0 < l.length) (hn : l.length ≤ 1099511627776) (hp : ∀ i, i < l.length → Sm 1000000 (pt l i)) :
  Ev (fun k => impl_extent.f k l u v) (mnN (fun i => vl u v (pt l i)) l.length, mxN (fun i => vl u v (pt l i)) l.length) := by
 unfold impl_extent.f
 have e0 : rd_impl_Peg l 0 = pt l 0 := rfl
 simp (disch := omega) only [if_pos, e0, impl_value_eq hu hv (hp 0 h0), Option.bind_some]
 have go : ∀ (d i : Nat), i + d = l.length → Ev (fun k => impl_extent.l0 k (mnN (fun i => vl u v (pt l i)) i) (mxN (fun i => vl u v (pt l i)) i) l l.length i u v) (mnN (fun i => vl u v (pt l i)) l.length, mxN (fun i => vl u v (pt l i)) l.length) := by
  intro d
  induction d with
  | zero =>
   intro i hi
   refine Ev.succ ?_
   obtain rfl : i = l.length := by omega
   simp (disch := omega) only [impl_extent.l0, if_neg]
   exact Ev.now _
  | succ d ih =>
   intro i hi
   refine Ev.succ ?_
   simp (disch := omega) only [impl_extent.l0, if_pos, rd_pt, impl_value_eq hu hv (hp i (by omega)), Option.bind_some, w64]
   exact ih (i + 1) (by omega)
 exact go l.length 0 (by omega)

end Go.Proofs.Ytfihohongkfibaa.B
