/- The law FnExactBoxOf holds: for all arguments the program's BoxOf answers as the reference's, and the arguments are left as they were. No condition. -/
import Derived.Test.YtnlkglbpihgcmaaX0
import Derived.Test.YtnlkglbpihgcmaaX2
import Derived.Test.YtnlkglbpihgcmaaX35
import Derived.Test.YtnlkglbpihgcmaaX36
import Derived.Test.YtnlkglbpihgcmaaBBase
import Derived.Test.YtnlkglbpihgcmaaBCore
import Derived.Test.YtnlkglbpihgcmaaBPoly
import Derived.Test.YtnlkglbpihgcmaaBArea
import Derived.Test.YtnlkglbpihgcmaaBMinMax
import Derived.Test.YtnlkglbpihgcmaaBBox
import Derived.Test.YtnlkglbpihgcmaaBRange
namespace Go.Proofs.Ytnlkglbpihgcmaa.Pure
open Go.RowKit Go.Proofs.Ytnlkglbpihgcmaa.XW Go.Proofs.Ytnlkglbpihgcmaa.X Go.Proofs.YtnlkglbpihgcmaaW.PrintWords Go.Proofs.YtnlkglbpihgcmaaW.PrintLast Go.Proofs.Ytnlkglbpihgcmaa.B
set_option linter.unusedVariables false
set_option linter.unusedSimpArgs false
set_option maxRecDepth 20000

noncomputable def ans_BoxOf (l : List S_impl_Peg) : Int × Int × Int × Int × Bool :=
  if good l = true then (mnN (fun i => (pt l i).f0) l.length, mnN (fun i => (pt l i).f1) l.length, mxN (fun i => (pt l i).f0) l.length, mxN (fun i => (pt l i).f1) l.length, true) else (0, 0, 0, 0, false)
theorem vl_x (p : S_impl_Peg) : vl 1 0 p = p.f0 := by
  unfold vl
  omega
theorem vl_y (p : S_impl_Peg) : vl 0 1 p = p.f1 := by
  unfold vl
  omega
theorem ev_spec_BoxOf (l : List S_impl_Peg) : Ev (fun k => spec_BoxOf.f k l) (ans_BoxOf l) := by
  unfold spec_BoxOf.f ans_BoxOf
  refine Ev.asked (ev_spec_good l) (fun h => ?_) (fun h => ?_)
  · have ok := good_iff.1 h
    have h3 := ok.lo
    have h10 := ok.hi
    simp only [h, if_true]
    have e1 := ev_spec_range l 1 0 (by omega) (by omega) (by omega) (by omega) (fun i hi => ok.big i hi)
    have e2 := ev_spec_range l 0 1 (by omega) (by omega) (by omega) (by omega) (fun i hi => ok.big i hi)
    simp only [vl_x] at e1
    simp only [vl_y] at e2
    exact Ev.bind e1 (Ev.bind e2 (Ev.now _))
  · simp only [h, Bool.false_eq_true, if_false]
    exact Ev.now _
theorem ev_impl_BoxOf (l : List S_impl_Peg) : Ev (fun k => impl_BoxOf.f k l) (ans_BoxOf l) := by
  unfold impl_BoxOf.f ans_BoxOf
  refine Ev.asked (ev_impl_IsPolygon l) (fun h => ?_) (fun h => ?_)
  · have ok := good_iff.1 h
    have h3 := ok.lo
    have h10 := ok.hi
    simp only [h, if_true]
    exact Ev.bind (ev_impl_box l (by omega) (by omega)) (Ev.now _)
  · simp only [h, Bool.false_eq_true, if_false]
    exact Ev.now _
theorem FnExactBoxOf : laws_FnExactBoxOf.Pure := by
  intro l0 hl0
  have hl0 := hl0.1
  refine Ev.rounds ?_
  unfold laws_FnExactBoxOf.f
  rw [szPegS_eq l0 hl0]
  simp only [Option.bind_some]
  by_cases gl0 : 1048576 < l0.length
  · simp only [if_pos gl0]
    exact Ev.now _
  simp only [if_neg gl0]
  simp (disch := omega) only [if_neg]
  have el0 : l0.length ≤ 1048576 := by omega
  obtain ⟨R, hR⟩ : ∃ R, R = ans_BoxOf (toP l0) := ⟨_, rfl⟩
  have hS := ev_spec_BoxOf (toP l0)
  have hM := ev_impl_BoxOf (toP l0)
  rw [← hR] at hS hM
  repeat (first | exact Ev.now _ | refine Ev.bind (ev_toPegS l0 el0) ?_ | refine Ev.bind hS ?_ | refine Ev.bind hM ?_ | refine Ev.bind (ev_eqPegS (toP l0) (by rw [toP_length]; omega)) ?_ | simp only [eq_self, if_true, bne_self_eq_false, Bool.false_eq_true, if_false, Option.bind_some, laws_eqPeg.f] | simp (disch := omega) only [if_neg, if_pos] | (refine Ev.succ ?_; simp only [laws_FnExactBoxOf.j0, Bool.false_eq_true, if_false]))

end Go.Proofs.Ytnlkglbpihgcmaa.Pure
