/- The law FnExactHasCentrePeg holds: for all arguments the program's HasCentrePeg answers as the reference's, and the arguments are left as they were. No condition. -/
import Derived.Test.YtnlkglbpihgcmaaX0
import Derived.Test.YtnlkglbpihgcmaaX16
import Derived.Test.YtnlkglbpihgcmaaX17
import Derived.Test.YtnlkglbpihgcmaaBBase
import Derived.Test.YtnlkglbpihgcmaaBCore
import Derived.Test.YtnlkglbpihgcmaaBPoly
import Derived.Test.YtnlkglbpihgcmaaBArea
import Derived.Test.YtnlkglbpihgcmaaBThrice
namespace Go.Proofs.Ytnlkglbpihgcmaa.Pure
open Go.RowKit Go.Proofs.Ytnlkglbpihgcmaa.XW Go.Proofs.Ytnlkglbpihgcmaa.X Go.Proofs.YtnlkglbpihgcmaaW.PrintWords Go.Proofs.YtnlkglbpihgcmaaW.PrintLast Go.Proofs.Ytnlkglbpihgcmaa.B
set_option linter.unusedVariables false
set_option linter.unusedSimpArgs false
set_option maxRecDepth 20000

noncomputable def ans_HasCentrePeg (l : List S_impl_Peg) : Bool × Bool :=
  if (ans_ThriceCentre l).2.2 = true then (if Int.tmod (ans_ThriceCentre l).1 3 = 0 then (Int.tmod (ans_ThriceCentre l).2.1 3 == 0, (ans_ThriceCentre l).2.2) else (false, (ans_ThriceCentre l).2.2)) else (false, (ans_ThriceCentre l).2.2)
theorem ev_spec_HasCentrePeg (l : List S_impl_Peg) : Ev (fun k => spec_HasCentrePeg.f k l) (ans_HasCentrePeg l) := by
  unfold spec_HasCentrePeg.f ans_HasCentrePeg
  refine Ev.bind (ev_spec_ThriceCentre l) ?_
  split
  · split <;> exact Ev.now _
  · exact Ev.now _
theorem ev_impl_HasCentrePeg (l : List S_impl_Peg) : Ev (fun k => impl_HasCentrePeg.f k l) (ans_HasCentrePeg l) := by
  unfold impl_HasCentrePeg.f ans_HasCentrePeg
  refine Ev.bind (ev_impl_ThriceCentre l) ?_
  split
  · split <;> exact Ev.now _
  · exact Ev.now _
theorem FnExactHasCentrePeg : laws_FnExactHasCentrePeg.Pure := by
  intro l0 hl0
  have hl0 := hl0.1
  refine Ev.rounds ?_
  unfold laws_FnExactHasCentrePeg.f
  rw [szPegS_eq l0 hl0]
  simp only [Option.bind_some]
  by_cases gl0 : 1048576 < l0.length
  · simp only [if_pos gl0]
    exact Ev.now _
  simp only [if_neg gl0]
  simp (disch := omega) only [if_neg]
  have el0 : l0.length ≤ 1048576 := by omega
  obtain ⟨R, hR⟩ : ∃ R, R = ans_HasCentrePeg (toP l0) := ⟨_, rfl⟩
  have hS := ev_spec_HasCentrePeg (toP l0)
  have hM := ev_impl_HasCentrePeg (toP l0)
  rw [← hR] at hS hM
  repeat (first | exact Ev.now _ | refine Ev.bind (ev_toPegS l0 el0) ?_ | refine Ev.bind hS ?_ | refine Ev.bind hM ?_ | refine Ev.bind (ev_eqPegS (toP l0) (by rw [toP_length]; omega)) ?_ | simp only [eq_self, if_true, bne_self_eq_false, Bool.false_eq_true, if_false, Option.bind_some] | simp (disch := omega) only [if_neg, if_pos] | (refine Ev.succ ?_; simp only [laws_FnExactHasCentrePeg.j0, Bool.false_eq_true, if_false]))

end Go.Proofs.Ytnlkglbpihgcmaa.Pure
