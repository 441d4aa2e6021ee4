/- The law FnExactThriceCentre holds: for all arguments the program's ThriceCentre answers as the reference's, and the arguments are left as they were. No condition. -/
import Derived.Test.YtnlkglbpihgcmaaX0
import Derived.Test.YtnlkglbpihgcmaaX15
import Derived.Test.YtnlkglbpihgcmaaBBase
import Derived.Test.YtnlkglbpihgcmaaBCore
import Derived.Test.YtnlkglbpihgcmaaBPoly
import Derived.Test.YtnlkglbpihgcmaaBArea
import Derived.Test.YtnlkglbpihgcmaaBThrice
namespace Go.Proofs.Ytnlkglbpihgcmaa.Pure
open Go.RowKit Go.Proofs.Ytnlkglbpihgcmaa.XW Go.Proofs.Ytnlkglbpihgcmaa.X Go.Proofs.YtnlkglbpihgcmaaW.PrintWords Go.Proofs.YtnlkglbpihgcmaaW.PrintLast Go.Proofs.Ytnlkglbpihgcmaa.B
set_option linter.unusedVariables false
set_option linter.unusedSimpArgs false
set_option maxRecDepth 20000

theorem FnExactThriceCentre : laws_FnExactThriceCentre.Pure := by
  intro l0 hl0
  have hl0 := hl0.1
  refine Ev.rounds ?_
  unfold laws_FnExactThriceCentre.f
  rw [szPegS_eq l0 hl0]
  simp only [Option.bind_some]
  by_cases gl0 : 1048576 < l0.length
  · simp only [if_pos gl0]
    exact Ev.now _
  simp only [if_neg gl0]
  simp (disch := omega) only [if_neg]
  have el0 : l0.length ≤ 1048576 := by omega
  obtain ⟨R, hR⟩ : ∃ R, R = ans_ThriceCentre (toP l0) := ⟨_, rfl⟩
  have hS := ev_spec_ThriceCentre (toP l0)
  have hM := ev_impl_ThriceCentre (toP l0)
  rw [← hR] at hS hM
  repeat (first | exact Ev.now _ | refine Ev.bind (ev_toPegS l0 el0) ?_ | refine Ev.bind hS ?_ | refine Ev.bind hM ?_ | refine Ev.bind (ev_eqPegS (toP l0) (by rw [toP_length]; omega)) ?_ | simp only [eq_self, if_true, bne_self_eq_false, Bool.false_eq_true, if_false, Option.bind_some] | simp (disch := omega) only [if_neg, if_pos] | (refine Ev.succ ?_; simp only [laws_FnExactThriceCentre.j0, Bool.false_eq_true, if_false]))

end Go.Proofs.Ytnlkglbpihgcmaa.Pure
