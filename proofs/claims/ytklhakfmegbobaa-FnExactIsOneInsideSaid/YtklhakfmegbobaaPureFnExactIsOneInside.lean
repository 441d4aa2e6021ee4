-- thin
/- The law FnExactIsOneInside holds: for all arguments the program's IsOneInside answers as the reference's, and the arguments are left as they were. No condition. -/
import Derived.Test.YtklhakfmegbobaaX0
import Derived.Test.YtklhakfmegbobaaX19
import Derived.Test.YtklhakfmegbobaaX22
import Derived.Test.YtklhakfmegbobaaX23
import Derived.Test.YtklhakfmegbobaaBBase
import Derived.Test.YtklhakfmegbobaaBCore
import Derived.Test.YtklhakfmegbobaaBPoly
import Derived.Test.YtklhakfmegbobaaBAsk
import Derived.Test.YtklhakfmegbobaaBSteps
import Derived.Test.YtklhakfmegbobaaBRound
import Derived.Test.YtklhakfmegbobaaBInner
import Derived.Test.YtklhakfmegbobaaBConvex
import Derived.Test.YtklhakfmegbobaaBWhere
namespace Go.Proofs.Ytklhakfmegbobaa.Pure
open Go.RowKit Go.Proofs.Ytklhakfmegbobaa.XW Go.Proofs.Ytklhakfmegbobaa.X Go.Proofs.YtklhakfmegbobaaW.PrintWords Go.Proofs.YtklhakfmegbobaaW.PrintLast Go.Proofs.Ytklhakfmegbobaa.B
set_option linter.unusedVariables false
set_option linter.unusedSimpArgs false
set_option maxRecDepth 20000

noncomputable def oneB (l : List S_impl_Peg) : Bool := if conv l = true then (if inn l = 1 then decide (wh l ⟨0, 0⟩ > 0) else false) else false
theorem sm_zero : Sm 1000000 ⟨0, 0⟩ := by unfold Sm; simp
theorem ev_impl_one {l : List S_impl_Peg} (ok : Poly l) : Ev (fun k => impl_isOneInside.f k l) (oneB l) := by
 unfold impl_isOneInside.f oneB
 refine Ev.asked (ev_impl_convex ok) (fun h => ?_) (fun h => ?_)
 ·simp only [h, if_true]
  refine Ev.bind ok.inner ?_
  by_cases h1 : inn l = 1
  ·simp only [h1, if_true]
   exact Ev.bind (ok.where_ (p := ⟨0, 0⟩) sm_zero) (Ev.now _)
  ·simp only [h1, if_false]
   exact Ev.now _
 ·simp only [h, Bool.false_eq_true, if_false]
  exact Ev.now _
theorem ev_spec_one {l : List S_impl_Peg} (ok : Poly l) : Ev (fun k => spec_duOne.f k l) (oneB l) := by
 unfold spec_duOne.f oneB
 refine Ev.bind (a := true) ((good_iff.2 ok) ▸ ev_spec_good l) ?_
 simp only [if_true]
 refine Ev.asked (ev_spec_convex ok) (fun h => ?_) (fun h => ?_)
 ·simp only [h, if_true]
  refine Ev.bind ok.sinner ?_
  by_cases h1 : inn l = 1
  ·simp only [h1, if_true]
   exact Ev.bind (ok.swhere (p := ⟨0, 0⟩) sm_zero) (Ev.now _)
  ·simp only [h1, if_false]
   exact Ev.now _
 ·simp only [h, Bool.false_eq_true, if_false]
  exact Ev.now _
noncomputable def ans_IsOneInside (l : List S_impl_Peg) : Bool × Bool := if good l = true then (oneB l, true) else (false, false)
theorem ev_spec_IsOneInside (l : List S_impl_Peg) : Ev (fun k => spec_IsOneInside.f k l) (ans_IsOneInside l) := by
 unfold spec_IsOneInside.f ans_IsOneInside
 exact askS l (fun ok => Ev.bind (ev_spec_one ok) (Ev.now _)) (Ev.now _)
theorem ev_impl_IsOneInside (l : List S_impl_Peg) : Ev (fun k => impl_IsOneInside.f k l) (ans_IsOneInside l) := by
 unfold impl_IsOneInside.f ans_IsOneInside
 exact askI l (fun ok => Ev.bind (ev_impl_one ok) (Ev.now _)) (Ev.now _)
theorem FnExactIsOneInside : laws_FnExactIsOneInside.Pure := by
 intro l0 hl0
 have hl0 := hl0.1
 refine Ev.rounds ?_
 unfold laws_FnExactIsOneInside.f
 rw [szPegS_eq l0 hl0]
 simp only [Option.bind_some]
 by_cases gl0 : 1048576 < l0.length
 ·simp only [if_pos gl0]
  exact Ev.now _
 simp only [if_neg gl0]
 simp (disch := omega) only [if_neg]
 have el0 : l0.length ≤ 1048576 := by omega
 obtain ⟨R, hR⟩ : ∃ R, R = ans_IsOneInside (toP l0) := ⟨_, rfl⟩
 have hS := ev_spec_IsOneInside (toP l0)
 have hM := ev_impl_IsOneInside (toP l0)
 rw [← hR] at hS hM
 repeat (first | exact Ev.now _ | refine Ev.bind (ev_toPegS l0 el0) ?_ | refine Ev.bind hS ?_ | refine Ev.bind hM ?_ | refine Ev.bind (ev_eqPegS (toP l0) (by rw [toP_length]; omega)) ?_ | simp only [eq_self, if_true, bne_self_eq_false, Bool.false_eq_true, if_false, Option.bind_some] | simp (disch := omega) only [if_neg, if_pos] | (refine Ev.succ ?_; simp only [laws_FnExactIsOneInside.j0, Bool.false_eq_true, if_false]))

end Go.Proofs.Ytklhakfmegbobaa.Pure
