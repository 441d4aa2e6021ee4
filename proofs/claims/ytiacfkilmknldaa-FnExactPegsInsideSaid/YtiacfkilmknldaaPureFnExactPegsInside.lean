/- The law FnExactPegsInside holds: for all arguments the program's PegsInside answers as the reference's, and the arguments are left as they were. No condition. -/
import Derived.Test.YtiacfkilmknldaaX0
import Derived.Test.YtiacfkilmknldaaX43
import Derived.Test.YtiacfkilmknldaaX44
import Derived.Test.YtiacfkilmknldaaBBase
import Derived.Test.YtiacfkilmknldaaBCore
import Derived.Test.YtiacfkilmknldaaBPoly
import Derived.Test.YtiacfkilmknldaaBArea
import Derived.Test.YtiacfkilmknldaaBSteps
import Derived.Test.YtiacfkilmknldaaBRound
import Derived.Test.YtiacfkilmknldaaBInner
namespace Go.Proofs.Ytiacfkilmknldaa.Pure
open Go.RowKit Go.Proofs.Ytiacfkilmknldaa.XW Go.Proofs.Ytiacfkilmknldaa.X Go.Proofs.YtiacfkilmknldaaW.PrintWords Go.Proofs.YtiacfkilmknldaaW.PrintLast Go.Proofs.Ytiacfkilmknldaa.B
set_option linter.unusedVariables false
set_option linter.unusedSimpArgs false
set_option maxRecDepth 20000

noncomputable def ans_PegsInside (l : List S_impl_Peg) : Int × Bool := if good l = true then (inn l, true) else (0, false)
theorem ev_spec_PegsInside (l : List S_impl_Peg) : Ev (fun k => spec_PegsInside.f k l) (ans_PegsInside l) := by
  unfold spec_PegsInside.f ans_PegsInside
  exact askS l (fun ok => Ev.bind ok.sinner (Ev.now _)) (Ev.now _)
theorem ev_impl_PegsInside (l : List S_impl_Peg) : Ev (fun k => impl_PegsInside.f k l) (ans_PegsInside l) := by
  unfold impl_PegsInside.f ans_PegsInside
  exact askI l (fun ok => Ev.bind ok.inner (Ev.now _)) (Ev.now _)
theorem FnExactPegsInside : laws_FnExactPegsInside.Pure := by
  intro l0 hl0
  have hl0 := hl0.1
  refine Ev.rounds ?_
  unfold laws_FnExactPegsInside.f
  rw [szPegS_eq l0 hl0]
  simp only [Option.bind_some]
  by_cases gl0 : 1048576 < l0.length
  · simp only [if_pos gl0]
    exact Ev.now _
  simp only [if_neg gl0]
  simp (disch := omega) only [if_neg]
  have el0 : l0.length ≤ 1048576 := by omega
  obtain ⟨R, hR⟩ : ∃ R, R = ans_PegsInside (toP l0) := ⟨_, rfl⟩
  have hS := ev_spec_PegsInside (toP l0)
  have hM := ev_impl_PegsInside (toP l0)
  rw [← hR] at hS hM
  repeat (first | exact Ev.now _ | refine Ev.bind (ev_toPegS l0 el0) ?_ | refine Ev.bind hS ?_ | refine Ev.bind hM ?_ | refine Ev.bind (ev_eqPegS (toP l0) (by rw [toP_length]; omega)) ?_ | simp only [eq_self, if_true, bne_self_eq_false, Bool.false_eq_true, if_false, Option.bind_some] | simp (disch := omega) only [if_neg, if_pos] | (refine Ev.succ ?_; simp only [laws_FnExactPegsInside.j0, Bool.false_eq_true, if_false]))

end Go.Proofs.Ytiacfkilmknldaa.Pure
