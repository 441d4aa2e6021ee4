-- thin
/- Pick's rule, in the reference and in the program. -/
import Derived.Test.YtklhakfmegbobaaX0
import Derived.Test.YtklhakfmegbobaaX8
import Derived.Test.YtklhakfmegbobaaX9
import Derived.Test.YtklhakfmegbobaaX20
import Derived.Test.YtklhakfmegbobaaX21
import Derived.Test.YtklhakfmegbobaaBBase
import Derived.Test.YtklhakfmegbobaaBCore
import Derived.Test.YtklhakfmegbobaaBPoly
import Derived.Test.YtklhakfmegbobaaBAsk
import Derived.Test.YtklhakfmegbobaaBArea
import Derived.Test.YtklhakfmegbobaaBSteps
import Derived.Test.YtklhakfmegbobaaBRound
namespace Go.Proofs.Ytklhakfmegbobaa.B
open Go.RowKit Go.Proofs.Ytklhakfmegbobaa.XW Go.Proofs.Ytklhakfmegbobaa.X Go.Proofs.YtklhakfmegbobaaW.PrintWords Go.Proofs.YtklhakfmegbobaaW.PrintLast Go.Proofs.Ytklhakfmegbobaa.B
set_option linter.unusedVariables false
set_option linter.unusedSimpArgs false
set_option maxRecDepth 20000

def inn (l : List S_impl_Peg) : Int := Int.tdiv (ab (ar l) + 2 - rn l) 2
theorem ab_bd {x B : Int} (h : -B ≤ x ∧ x ≤ B) : 0 ≤ ab x ∧ ab x ≤ B := by
 unfold ab
 split <;> omega
theorem tdiv_bd {x B : Int} (hB : 0 ≤ B) (h : -B ≤ x ∧ x ≤ B) (d : Int) : -B ≤ Int.tdiv x d ∧ Int.tdiv x d ≤ B := by
 have h1 : (Int.tdiv x d).natAbs ≤ x.natAbs := by
  rw [Int.natAbs_tdiv]
  exact Nat.div_le_self _ _
 omega
namespace Poly
variable {l : List S_impl_Peg} (h : Poly l)
include h
theorem abs_bd : 0 ≤ ab (ar l) ∧ ab (ar l) ≤ 32000 := ab_bd h.area_bd
theorem inn_bd : -40000 ≤ inn l ∧ inn l ≤ 40000 := by
 have h1 := h.abs_bd
 have h2 := h.round_bd
 exact tdiv_bd (by omega) (by omega) 2
theorem abs_i {n : Int} (e : n = ar l) : impl_size.f n = some (ab (ar l)) := by
 have := h.area_bd
 subst e
 exact impl_size_eq (by omega)
theorem abs_s : spec_l1Abs.f (ar l) = some (ab (ar l)) := by
 have := h.area_bd
 exact spec_abs_eq (by omega)
theorem inner : Ev (fun k => impl_inner.f k l) (inn l) := by
 have h1 := h.abs_bd
 have h2 := h.round_bd
 have h3 := h.inn_bd
 unfold impl_inner.f
 refine Ev.bind h.area ?_
 rw [h.abs_i rfl]
 simp only [Option.bind_some]
 refine Ev.bind h.round ?_
 unfold inn at h3 ⊢
 simp (disch := omega) only [w64]
 exact Ev.now _
theorem sinner : Ev (fun k => spec_pgInside.f k l) (inn l) := by
 have h1 := h.abs_bd
 have h2 := h.round_bd
 have h3 := h.inn_bd
 unfold spec_pgInside.f
 refine Ev.bind h.sarea ?_
 rw [h.abs_s]
 simp only [Option.bind_some]
 refine Ev.bind h.sround ?_
 unfold inn at h3 ⊢
 simp (disch := omega) only [w64]
 exact Ev.now _
end Poly

end Go.Proofs.Ytklhakfmegbobaa.B
