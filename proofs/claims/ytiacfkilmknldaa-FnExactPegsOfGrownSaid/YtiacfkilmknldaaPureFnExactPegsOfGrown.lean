/- The law FnExactPegsOfGrown holds: for all arguments the program's PegsOfGrown answers as the reference's, and the arguments are left as they were. No condition. -/
import Derived.Test.YtiacfkilmknldaaX0
import Derived.Test.YtiacfkilmknldaaX45
import Derived.Test.YtiacfkilmknldaaX46
import Derived.Test.YtiacfkilmknldaaBBase
import Derived.Test.YtiacfkilmknldaaBCore
import Derived.Test.YtiacfkilmknldaaBPoly
import Derived.Test.YtiacfkilmknldaaBArea
import Derived.Test.YtiacfkilmknldaaBSteps
import Derived.Test.YtiacfkilmknldaaBRound
import Derived.Test.YtiacfkilmknldaaBInner
namespace Go.Proofs.Ytiacfkilmknldaa.Pure
open Go.RowKit Go.Proofs.Ytiacfkilmknldaa.XW Go.Proofs.Ytiacfkilmknldaa.X Go.Proofs.YtiacfkilmknldaaW.PrintWords Go.Proofs.YtiacfkilmknldaaW.PrintLast Go.Proofs.Ytiacfkilmknldaa.B
set_option linter.unusedVariables false
set_option linter.unusedSimpArgs false
set_option maxRecDepth 20000

noncomputable def ans_PegsOfGrown (l : List S_impl_Peg) (n : Int) : Int × Bool :=
  if three l = true then (if (decide (0 ≤ n) && decide (n ≤ 20)) = true then (wrap64 (Int.tdiv (wrap64 (wrap64 (wrap64 (wrap64 (n * n) * ab (ar l)) + wrap64 (n * rn l)) + 2)) 2), true) else (0, false)) else (0, false)
theorem ev_spec_PegsOfGrown (l : List S_impl_Peg) (n : Int) : Ev (fun k => spec_PegsOfGrown.f k l n) (ans_PegsOfGrown l n) := by
  unfold spec_PegsOfGrown.f ans_PegsOfGrown
  refine ask3S l (fun _ ok => ?_) ?_
  · simp only [if_true, spec_in_eq, Option.bind_some]
    refine Ev.succ ?_
    cases h : (decide (0 ≤ n) && decide (n ≤ 20))
    · exact Ev.now _
    · simp only [spec_PegsOfGrown.j0, Bool.not_true, Bool.false_eq_true, if_false, if_true]
      refine Ev.bind ok.sarea ?_
      rw [ok.abs_s]
      simp only [Option.bind_some]
      exact Ev.bind ok.sround (Ev.now _)
  · refine Ev.succ ?_
    exact Ev.now _
theorem ev_impl_PegsOfGrown (l : List S_impl_Peg) (n : Int) : Ev (fun k => impl_PegsOfGrown.f k l n) (ans_PegsOfGrown l n) := by
  unfold impl_PegsOfGrown.f ans_PegsOfGrown
  refine ask3I l (fun _ ok => ?_) ?_
  · simp only [if_true, impl_within_eq, Option.bind_some]
    refine Ev.succ ?_
    cases h : (decide (0 ≤ n) && decide (n ≤ 20))
    · exact Ev.now _
    · simp only [impl_PegsOfGrown.j0, Bool.not_true, Bool.false_eq_true, if_false, if_true]
      refine Ev.bind ok.area ?_
      rw [ok.abs_i rfl]
      simp only [Option.bind_some]
      exact Ev.bind ok.round (Ev.now _)
  · refine Ev.succ ?_
    exact Ev.now _
theorem FnExactPegsOfGrown : laws_FnExactPegsOfGrown.Pure := by
  intro l0 x1 hl0 hx1
  have hl0 := hl0.1
  refine Ev.rounds ?_
  unfold laws_FnExactPegsOfGrown.f
  rw [szPegS_eq l0 hl0]
  simp only [Option.bind_some]
  by_cases gl0 : 1048576 < l0.length
  · simp only [if_pos gl0]
    exact Ev.now _
  simp only [if_neg gl0]
  simp (disch := omega) only [if_neg]
  have el0 : l0.length ≤ 1048576 := by omega
  obtain ⟨R, hR⟩ : ∃ R, R = ans_PegsOfGrown (toP l0) x1 := ⟨_, rfl⟩
  have hS := ev_spec_PegsOfGrown (toP l0) x1
  have hM := ev_impl_PegsOfGrown (toP l0) x1
  rw [← hR] at hS hM
  repeat (first | exact Ev.now _ | refine Ev.bind (ev_toPegS l0 el0) ?_ | refine Ev.bind hS ?_ | refine Ev.bind hM ?_ | refine Ev.bind (ev_eqPegS (toP l0) (by rw [toP_length]; omega)) ?_ | simp only [eq_self, if_true, bne_self_eq_false, Bool.false_eq_true, if_false, Option.bind_some] | simp (disch := omega) only [if_neg, if_pos] | (refine Ev.succ ?_; simp only [laws_FnExactPegsOfGrown.j0, Bool.false_eq_true, if_false]))

end Go.Proofs.Ytiacfkilmknldaa.Pure
