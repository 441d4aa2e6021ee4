/- The law FnExactIsEmptyThree holds: for all arguments the program's IsEmptyThree answers as the reference's, and the arguments are left as they were. No condition. -/
import Derived.Test.YtnlkglbpihgcmaaX0
import Derived.Test.YtnlkglbpihgcmaaX26
import Derived.Test.YtnlkglbpihgcmaaX27
import Derived.Test.YtnlkglbpihgcmaaBBase
import Derived.Test.YtnlkglbpihgcmaaBCore
import Derived.Test.YtnlkglbpihgcmaaBPoly
import Derived.Test.YtnlkglbpihgcmaaBArea
namespace Go.Proofs.Ytnlkglbpihgcmaa.Pure
open Go.RowKit Go.Proofs.Ytnlkglbpihgcmaa.XW Go.Proofs.Ytnlkglbpihgcmaa.X Go.Proofs.YtnlkglbpihgcmaaW.PrintWords Go.Proofs.YtnlkglbpihgcmaaW.PrintLast Go.Proofs.Ytnlkglbpihgcmaa.B
set_option linter.unusedVariables false
set_option linter.unusedSimpArgs false
set_option maxRecDepth 20000

noncomputable def ans_IsEmptyThree (l : List S_impl_Peg) : Bool × Bool := if three l = true then (ab (ar l) == 1, true) else (false, false)
theorem ev_spec_IsEmptyThree (l : List S_impl_Peg) : Ev (fun k => spec_IsEmptyThree.f k l) (ans_IsEmptyThree l) := by
  unfold spec_IsEmptyThree.f ans_IsEmptyThree
  refine Ev.asked (ev_spec_three l) (fun h => ?_) (fun h => ?_)
  · have ok := (three_iff.1 h).2
    have hb := ok.area_bd
    simp only [h, if_true]
    refine Ev.bind ok.sarea ?_
    rw [spec_abs_eq (by omega)]
    exact Ev.now _
  · simp only [h, Bool.false_eq_true, if_false]
    exact Ev.now _
theorem ev_impl_IsEmptyThree (l : List S_impl_Peg) : Ev (fun k => impl_IsEmptyThree.f k l) (ans_IsEmptyThree l) := by
  unfold impl_IsEmptyThree.f ans_IsEmptyThree
  refine Ev.asked (ev_impl_three l) (fun h => ?_) (fun h => ?_)
  · have ok := (three_iff.1 h).2
    have hb := ok.area_bd
    simp only [h, if_true]
    refine Ev.bind ok.area ?_
    rw [impl_size_eq (by omega)]
    exact Ev.now _
  · simp only [h, Bool.false_eq_true, if_false]
    exact Ev.now _
theorem FnExactIsEmptyThree : laws_FnExactIsEmptyThree.Pure := by
  intro l0 hl0
  have hl0 := hl0.1
  refine Ev.rounds ?_
  unfold laws_FnExactIsEmptyThree.f
  rw [szPegS_eq l0 hl0]
  simp only [Option.bind_some]
  by_cases gl0 : 1048576 < l0.length
  · simp only [if_pos gl0]
    exact Ev.now _
  simp only [if_neg gl0]
  simp (disch := omega) only [if_neg]
  have el0 : l0.length ≤ 1048576 := by omega
  obtain ⟨R, hR⟩ : ∃ R, R = ans_IsEmptyThree (toP l0) := ⟨_, rfl⟩
  have hS := ev_spec_IsEmptyThree (toP l0)
  have hM := ev_impl_IsEmptyThree (toP l0)
  rw [← hR] at hS hM
  repeat (first | exact Ev.now _ | refine Ev.bind (ev_toPegS l0 el0) ?_ | refine Ev.bind hS ?_ | refine Ev.bind hM ?_ | refine Ev.bind (ev_eqPegS (toP l0) (by rw [toP_length]; omega)) ?_ | simp only [eq_self, if_true, bne_self_eq_false, Bool.false_eq_true, if_false, Option.bind_some] | simp (disch := omega) only [if_neg, if_pos] | (refine Ev.succ ?_; simp only [laws_FnExactIsEmptyThree.j0, Bool.false_eq_true, if_false]))

end Go.Proofs.Ytnlkglbpihgcmaa.Pure
