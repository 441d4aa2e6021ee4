/- The law FnExactAngleKind holds: for all arguments the program's AngleKind answers as the reference's, and the arguments are left as they were. No condition. -/
import Derived.Test.YtnlkglbpihgcmaaX0
import Derived.Test.YtnlkglbpihgcmaaX22
import Derived.Test.YtnlkglbpihgcmaaX24
import Derived.Test.YtnlkglbpihgcmaaX25
import Derived.Test.YtnlkglbpihgcmaaBBase
import Derived.Test.YtnlkglbpihgcmaaBCore
import Derived.Test.YtnlkglbpihgcmaaBPoly
import Derived.Test.YtnlkglbpihgcmaaBArea
import Derived.Test.YtnlkglbpihgcmaaBSides
namespace Go.Proofs.Ytnlkglbpihgcmaa.Pure
open Go.RowKit Go.Proofs.Ytnlkglbpihgcmaa.XW Go.Proofs.Ytnlkglbpihgcmaa.X Go.Proofs.YtnlkglbpihgcmaaW.PrintWords Go.Proofs.YtnlkglbpihgcmaaW.PrintLast Go.Proofs.Ytnlkglbpihgcmaa.B
set_option linter.unusedVariables false
set_option linter.unusedSimpArgs false
set_option maxRecDepth 20000

noncomputable def ans_AngleKind (l : List S_impl_Peg) : Int × Bool :=
  if three l = true then (sgn (sq (pt l 1) (pt l 2) + sq (pt l 2) (pt l 0) + sq (pt l 0) (pt l 1) - 2 * mx (mx (sq (pt l 1) (pt l 2)) (sq (pt l 2) (pt l 0))) (sq (pt l 0) (pt l 1))), true) else (0, false)
theorem mx_bd {a b A : Int} (ha : 0 ≤ a ∧ a ≤ A) (hb : 0 ≤ b ∧ b ≤ A) : 0 ≤ mx a b ∧ mx a b ≤ A := by
  unfold mx
  split <;> omega
theorem mx_assoc (a b c : Int) : mx a (mx b c) = mx (mx a b) c := by
  unfold mx
  repeat' split
  all_goals omega
theorem ev_spec_AngleKind (l : List S_impl_Peg) : Ev (fun k => spec_AngleKind.f k l) (ans_AngleKind l) := by
  unfold spec_AngleKind.f ans_AngleKind
  refine Ev.asked (ev_spec_three l) (fun h => ?_) (fun h => ?_)
  · obtain ⟨b0, b1, b2⟩ := sds_bd h
    have m1 := mx_bd (mx_bd b0 b1) b2
    simp only [h, if_true, spec_sides_eq h, Option.bind_some]
    have r0 : rd (sds l) 0 = sq (pt l 1) (pt l 2) := rfl
    have r1 : rd (sds l) 1 = sq (pt l 2) (pt l 0) := rfl
    have r2 : rd (sds l) 2 = sq (pt l 0) (pt l 1) := rfl
    have hl : ((sds l).length : Int) = 3 := rfl
    simp (disch := omega) only [hl, if_pos, r0, r1, r2, spec_most_eq, Option.bind_some, mx_assoc, w64, spec_sign_eq]
    exact Ev.now _
  · simp only [h, Bool.false_eq_true, if_false]
    exact Ev.now _
theorem ev_impl_AngleKind (l : List S_impl_Peg) : Ev (fun k => impl_AngleKind.f k l) (ans_AngleKind l) := by
  unfold impl_AngleKind.f ans_AngleKind
  refine Ev.asked (ev_impl_three l) (fun h => ?_) (fun h => ?_)
  · obtain ⟨b0, b1, b2⟩ := sds_bd h
    have m1 := mx_bd (mx_bd b0 b1) b2
    simp only [h, if_true, impl_sides_eq h, Option.bind_some]
    have r0 : rd (sds l) 0 = sq (pt l 1) (pt l 2) := rfl
    have r1 : rd (sds l) 1 = sq (pt l 2) (pt l 0) := rfl
    have r2 : rd (sds l) 2 = sq (pt l 0) (pt l 1) := rfl
    have hl : ((sds l).length : Int) = 3 := rfl
    simp (disch := omega) only [hl, if_pos, r0, r1, r2, Option.bind_some, w64, impl_sign_eq]
    exact Ev.now _
  · simp only [h, Bool.false_eq_true, if_false]
    exact Ev.now _
theorem FnExactAngleKind : laws_FnExactAngleKind.Pure := by
  intro l0 hl0
  have hl0 := hl0.1
  refine Ev.rounds ?_
  unfold laws_FnExactAngleKind.f
  rw [szPegS_eq l0 hl0]
  simp only [Option.bind_some]
  by_cases gl0 : 1048576 < l0.length
  · simp only [if_pos gl0]
    exact Ev.now _
  simp only [if_neg gl0]
  simp (disch := omega) only [if_neg]
  have el0 : l0.length ≤ 1048576 := by omega
  obtain ⟨R, hR⟩ : ∃ R, R = ans_AngleKind (toP l0) := ⟨_, rfl⟩
  have hS := ev_spec_AngleKind (toP l0)
  have hM := ev_impl_AngleKind (toP l0)
  rw [← hR] at hS hM
  repeat (first | exact Ev.now _ | refine Ev.bind (ev_toPegS l0 el0) ?_ | refine Ev.bind hS ?_ | refine Ev.bind hM ?_ | refine Ev.bind (ev_eqPegS (toP l0) (by rw [toP_length]; omega)) ?_ | simp only [eq_self, if_true, bne_self_eq_false, Bool.false_eq_true, if_false, Option.bind_some] | simp (disch := omega) only [if_neg, if_pos] | (refine Ev.succ ?_; simp only [laws_FnExactAngleKind.j0, Bool.false_eq_true, if_false]))

end Go.Proofs.Ytnlkglbpihgcmaa.Pure
