/- The law FnExactIsConvex holds: for all arguments the program's IsConvex answers as the reference's, and the arguments are left as they were. No condition. -/
import Derived.Test.YtiacfkilmknldaaX0
import Derived.Test.YtiacfkilmknldaaX6
import Derived.Test.YtiacfkilmknldaaX12
import Derived.Test.YtiacfkilmknldaaX14
import Derived.Test.YtiacfkilmknldaaBBase
import Derived.Test.YtiacfkilmknldaaBCore
import Derived.Test.YtiacfkilmknldaaBPoly
import Derived.Test.YtiacfkilmknldaaBArea
import Derived.Test.YtiacfkilmknldaaBConvex
namespace Go.Proofs.Ytiacfkilmknldaa.Pure
open Go.RowKit Go.Proofs.Ytiacfkilmknldaa.XW Go.Proofs.Ytiacfkilmknldaa.X Go.Proofs.YtiacfkilmknldaaW.PrintWords Go.Proofs.YtiacfkilmknldaaW.PrintLast Go.Proofs.Ytiacfkilmknldaa.B
set_option linter.unusedVariables false
set_option linter.unusedSimpArgs false
set_option maxRecDepth 20000

noncomputable def ans_IsConvex (l : List S_impl_Peg) : Bool × Bool := if good l = true then (conv l, true) else (false, false)
theorem ev_spec_IsConvex (l : List S_impl_Peg) : Ev (fun k => spec_IsConvex.f k l) (ans_IsConvex l) := by
  unfold spec_IsConvex.f ans_IsConvex
  refine Ev.asked (ev_spec_good l) (fun h => ?_) (fun h => ?_)
  · simp only [h, if_true]
    exact Ev.bind (ev_spec_convex (good_iff.1 h)) (Ev.now _)
  · simp only [h, Bool.false_eq_true, if_false]
    exact Ev.now _
theorem ev_impl_IsConvex (l : List S_impl_Peg) : Ev (fun k => impl_IsConvex.f k l) (ans_IsConvex l) := by
  unfold impl_IsConvex.f ans_IsConvex
  refine Ev.asked (ev_impl_IsPolygon l) (fun h => ?_) (fun h => ?_)
  · simp only [h, if_true]
    exact Ev.bind (ev_impl_convex (good_iff.1 h)) (Ev.now _)
  · simp only [h, Bool.false_eq_true, if_false]
    exact Ev.now _
theorem FnExactIsConvex : laws_FnExactIsConvex.Pure := by
  intro l0 hl0
  have hl0 := hl0.1
  refine Ev.rounds ?_
  unfold laws_FnExactIsConvex.f
  rw [szPegS_eq l0 hl0]
  simp only [Option.bind_some]
  by_cases gl0 : 1048576 < l0.length
  · simp only [if_pos gl0]
    exact Ev.now _
  simp only [if_neg gl0]
  simp (disch := omega) only [if_neg]
  have el0 : l0.length ≤ 1048576 := by omega
  obtain ⟨R, hR⟩ : ∃ R, R = ans_IsConvex (toP l0) := ⟨_, rfl⟩
  have hS := ev_spec_IsConvex (toP l0)
  have hM := ev_impl_IsConvex (toP l0)
  rw [← hR] at hS hM
  repeat (first | exact Ev.now _ | refine Ev.bind (ev_toPegS l0 el0) ?_ | refine Ev.bind hS ?_ | refine Ev.bind hM ?_ | refine Ev.bind (ev_eqPegS (toP l0) (by rw [toP_length]; omega)) ?_ | simp only [eq_self, if_true, bne_self_eq_false, Bool.false_eq_true, if_false, Option.bind_some] | simp (disch := omega) only [if_neg, if_pos] | (refine Ev.succ ?_; simp only [laws_FnExactIsConvex.j0, Bool.false_eq_true, if_false]))

end Go.Proofs.Ytiacfkilmknldaa.Pure
