/- The law FnExactBoxOfThree holds: for all arguments the program's BoxOfThree answers as the reference's, and the arguments are left as they were. No condition. -/
import Derived.Test.YtnlkglbpihgcmaaX0
import Derived.Test.YtnlkglbpihgcmaaX2
import Derived.Test.YtnlkglbpihgcmaaX28
import Derived.Test.YtnlkglbpihgcmaaX29
import Derived.Test.YtnlkglbpihgcmaaX31
import Derived.Test.YtnlkglbpihgcmaaX32
import Derived.Test.YtnlkglbpihgcmaaBBase
import Derived.Test.YtnlkglbpihgcmaaBCore
import Derived.Test.YtnlkglbpihgcmaaBPoly
import Derived.Test.YtnlkglbpihgcmaaBArea
import Derived.Test.YtnlkglbpihgcmaaBMinMax
import Derived.Test.YtnlkglbpihgcmaaBBox
namespace Go.Proofs.Ytnlkglbpihgcmaa.Pure
open Go.RowKit Go.Proofs.Ytnlkglbpihgcmaa.XW Go.Proofs.Ytnlkglbpihgcmaa.X Go.Proofs.YtnlkglbpihgcmaaW.PrintWords Go.Proofs.YtnlkglbpihgcmaaW.PrintLast Go.Proofs.Ytnlkglbpihgcmaa.B
set_option linter.unusedVariables false
set_option linter.unusedSimpArgs false
set_option maxRecDepth 20000

theorem spec_least_eq (a b : Int) : spec_l1Least.f a b = some (mn a b) := by
  unfold spec_l1Least.f mn
  repeat' split
  all_goals first | rfl | omega | (congr 1; omega)
noncomputable def ans_BoxOfThree (l : List S_impl_Peg) : Int × Int × Int × Int × Bool :=
  if three l = true then (mnN (fun i => (pt l i).f0) l.length, mnN (fun i => (pt l i).f1) l.length, mxN (fun i => (pt l i).f0) l.length, mxN (fun i => (pt l i).f1) l.length, true) else (0, 0, 0, 0, false)
theorem ev_spec_BoxOfThree (l : List S_impl_Peg) : Ev (fun k => spec_BoxOfThree.f k l) (ans_BoxOfThree l) := by
  unfold spec_BoxOfThree.f ans_BoxOfThree
  refine Ev.asked (ev_spec_three l) (fun h => ?_) (fun h => ?_)
  · have h3 := (three_iff.1 h).1
    have e0 : rd_impl_Peg l 0 = pt l 0 := rfl
    simp (disch := omega) only [h, if_true, if_pos, e0]
    have go : ∀ (d i : Nat), i + d = l.length → Ev (fun k => spec_BoxOfThree.l0 k l l.length i (mnN (fun i => (pt l i).f0) i) (mnN (fun i => (pt l i).f1) i) (mxN (fun i => (pt l i).f0) i) (mxN (fun i => (pt l i).f1) i)) (mnN (fun i => (pt l i).f0) l.length, mnN (fun i => (pt l i).f1) l.length, mxN (fun i => (pt l i).f0) l.length, mxN (fun i => (pt l i).f1) l.length, true) := by
      intro d
      induction d with
      | zero =>
        intro i hi
        refine Ev.succ ?_
        obtain rfl : i = l.length := by omega
        simp (disch := omega) only [spec_BoxOfThree.l0, if_neg]
        exact Ev.now _
      | succ d ih =>
        intro i hi
        refine Ev.succ ?_
        simp (disch := omega) only [spec_BoxOfThree.l0, if_pos, rd_pt, spec_least_eq, spec_most_eq, Option.bind_some, w64]
        exact ih (i + 1) (by omega)
    exact go l.length 0 (by omega)
  · simp only [h, Bool.false_eq_true, if_false]
    exact Ev.now _
theorem ev_impl_BoxOfThree (l : List S_impl_Peg) : Ev (fun k => impl_BoxOfThree.f k l) (ans_BoxOfThree l) := by
  unfold impl_BoxOfThree.f ans_BoxOfThree
  refine Ev.asked (ev_impl_three l) (fun h => ?_) (fun h => ?_)
  · have h3 := (three_iff.1 h).1
    simp only [h, if_true]
    exact Ev.bind (ev_impl_box l (by omega) (by omega)) (Ev.now _)
  · simp only [h, Bool.false_eq_true, if_false]
    exact Ev.now _
theorem FnExactBoxOfThree : laws_FnExactBoxOfThree.Pure := by
  intro l0 hl0
  have hl0 := hl0.1
  refine Ev.rounds ?_
  unfold laws_FnExactBoxOfThree.f
  rw [szPegS_eq l0 hl0]
  simp only [Option.bind_some]
  by_cases gl0 : 1048576 < l0.length
  · simp only [if_pos gl0]
    exact Ev.now _
  simp only [if_neg gl0]
  simp (disch := omega) only [if_neg]
  have el0 : l0.length ≤ 1048576 := by omega
  obtain ⟨R, hR⟩ : ∃ R, R = ans_BoxOfThree (toP l0) := ⟨_, rfl⟩
  have hS := ev_spec_BoxOfThree (toP l0)
  have hM := ev_impl_BoxOfThree (toP l0)
  rw [← hR] at hS hM
  repeat (first | exact Ev.now _ | refine Ev.bind (ev_toPegS l0 el0) ?_ | refine Ev.bind hS ?_ | refine Ev.bind hM ?_ | refine Ev.bind (ev_eqPegS (toP l0) (by rw [toP_length]; omega)) ?_ | simp only [eq_self, if_true, bne_self_eq_false, Bool.false_eq_true, if_false, Option.bind_some, laws_eqPeg.f] | simp (disch := omega) only [if_neg, if_pos] | (refine Ev.succ ?_; simp only [laws_FnExactBoxOfThree.j0, Bool.false_eq_true, if_false]))

end Go.Proofs.Ytnlkglbpihgcmaa.Pure
