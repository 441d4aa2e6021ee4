/- The law FnExactTwiceArea holds: for all arguments the program's TwiceArea answers as the reference's, and the arguments are left as they were. No condition. -/
import Derived.Test.YtnlkglbpihgcmaaX0
import Derived.Test.YtnlkglbpihgcmaaX18
import Derived.Test.YtnlkglbpihgcmaaX19
import Derived.Test.YtnlkglbpihgcmaaBBase
import Derived.Test.YtnlkglbpihgcmaaBCore
import Derived.Test.YtnlkglbpihgcmaaBPoly
import Derived.Test.YtnlkglbpihgcmaaBArea
namespace Go.Proofs.Ytnlkglbpihgcmaa.Pure
open Go.RowKit Go.Proofs.Ytnlkglbpihgcmaa.XW Go.Proofs.Ytnlkglbpihgcmaa.X Go.Proofs.YtnlkglbpihgcmaaW.PrintWords Go.Proofs.YtnlkglbpihgcmaaW.PrintLast Go.Proofs.Ytnlkglbpihgcmaa.B
set_option linter.unusedVariables false
set_option linter.unusedSimpArgs false
set_option maxRecDepth 20000

noncomputable def ans_TwiceArea (l : List S_impl_Peg) : Int × Bool := if good l = true then (ar l, true) else (0, false)
theorem ev_spec_TwiceArea (l : List S_impl_Peg) : Ev (fun k => spec_TwiceArea.f k l) (ans_TwiceArea l) := by
  unfold spec_TwiceArea.f ans_TwiceArea
  refine Ev.asked (ev_spec_good l) (fun h => ?_) (fun h => ?_)
  · simp only [h, if_true]
    exact Ev.bind (good_iff.1 h).sarea (Ev.now _)
  · simp only [h, Bool.false_eq_true, if_false]
    exact Ev.now _
theorem ev_impl_TwiceArea (l : List S_impl_Peg) : Ev (fun k => impl_TwiceArea.f k l) (ans_TwiceArea l) := by
  unfold impl_TwiceArea.f ans_TwiceArea
  refine Ev.asked (ev_impl_IsPolygon l) (fun h => ?_) (fun h => ?_)
  · simp only [h, if_true]
    exact Ev.bind (good_iff.1 h).area (Ev.now _)
  · simp only [h, Bool.false_eq_true, if_false]
    exact Ev.now _
theorem FnExactTwiceArea : laws_FnExactTwiceArea.Pure := by
  intro l0 hl0
  have hl0 := hl0.1
  refine Ev.rounds ?_
  unfold laws_FnExactTwiceArea.f
  rw [szPegS_eq l0 hl0]
  simp only [Option.bind_some]
  by_cases gl0 : 1048576 < l0.length
  · simp only [if_pos gl0]
    exact Ev.now _
  simp only [if_neg gl0]
  simp (disch := omega) only [if_neg]
  have el0 : l0.length ≤ 1048576 := by omega
  obtain ⟨R, hR⟩ : ∃ R, R = ans_TwiceArea (toP l0) := ⟨_, rfl⟩
  have hS := ev_spec_TwiceArea (toP l0)
  have hM := ev_impl_TwiceArea (toP l0)
  rw [← hR] at hS hM
  repeat (first | exact Ev.now _ | refine Ev.bind (ev_toPegS l0 el0) ?_ | refine Ev.bind hS ?_ | refine Ev.bind hM ?_ | refine Ev.bind (ev_eqPegS (toP l0) (by rw [toP_length]; omega)) ?_ | simp only [eq_self, if_true, bne_self_eq_false, Bool.false_eq_true, if_false, Option.bind_some] | simp (disch := omega) only [if_neg, if_pos] | (refine Ev.succ ?_; simp only [laws_FnExactTwiceArea.j0, Bool.false_eq_true, if_false]))

end Go.Proofs.Ytnlkglbpihgcmaa.Pure
