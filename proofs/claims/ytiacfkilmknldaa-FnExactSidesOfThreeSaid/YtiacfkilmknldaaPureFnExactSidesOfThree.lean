/- The law FnExactSidesOfThree holds: for all arguments the program's SidesOfThree answers as the reference's, and the arguments are left as they were. No condition. -/
import Derived.Test.YtiacfkilmknldaaX0
import Derived.Test.YtiacfkilmknldaaX35
import Derived.Test.YtiacfkilmknldaaX36
import Derived.Test.YtiacfkilmknldaaX37
import Derived.Test.YtiacfkilmknldaaBBase
import Derived.Test.YtiacfkilmknldaaBCore
import Derived.Test.YtiacfkilmknldaaBPoly
import Derived.Test.YtiacfkilmknldaaBArea
import Derived.Test.YtiacfkilmknldaaBSides
import Derived.Test.YtiacfkilmknldaaBEqIntS
import Derived.Test.YtiacfkilmknldaaBMarkI
import Derived.Test.YtiacfkilmknldaaBMarkP
namespace Go.Proofs.Ytiacfkilmknldaa.Pure
open Go.RowKit Go.Proofs.Ytiacfkilmknldaa.XW Go.Proofs.Ytiacfkilmknldaa.X Go.Proofs.YtiacfkilmknldaaW.PrintWords Go.Proofs.YtiacfkilmknldaaW.PrintLast Go.Proofs.Ytiacfkilmknldaa.B
set_option linter.unusedVariables false
set_option linter.unusedSimpArgs false
set_option maxRecDepth 20000

noncomputable def ans_SidesOfThree (l : List S_impl_Peg) : List Int × Bool := if three l = true then (sds l, true) else ([], false)
theorem ans_SidesOfThree_len (l : List S_impl_Peg) : (ans_SidesOfThree l).1.length ≤ 1099511627776 := by
  unfold ans_SidesOfThree
  split
  · show 3 ≤ _
    omega
  · show 0 ≤ _
    omega
theorem ev_spec_SidesOfThree (l : List S_impl_Peg) : Ev (fun k => spec_SidesOfThree.f k l) (ans_SidesOfThree l) := by
  unfold spec_SidesOfThree.f ans_SidesOfThree
  refine Ev.asked (ev_spec_three l) (fun h => ?_) (fun h => ?_)
  · simp only [h, if_true, spec_sides_eq h, Option.bind_some]
    exact Ev.now _
  · simp only [h, Bool.false_eq_true, if_false]
    exact Ev.now _
theorem ev_impl_SidesOfThree (l : List S_impl_Peg) : Ev (fun k => impl_SidesOfThree.f k l) (ans_SidesOfThree l) := by
  unfold impl_SidesOfThree.f ans_SidesOfThree
  refine Ev.asked (ev_impl_three l) (fun h => ?_) (fun h => ?_)
  · simp only [h, if_true, impl_sides_eq h, Option.bind_some]
    exact Ev.now _
  · simp only [h, Bool.false_eq_true, if_false]
    exact Ev.now _
theorem FnExactSidesOfThree : laws_FnExactSidesOfThree.Pure := by
  intro l0 hl0
  have hl0 := hl0.1
  refine Ev.rounds ?_
  unfold laws_FnExactSidesOfThree.f
  rw [szPegS_eq l0 hl0]
  simp only [Option.bind_some]
  by_cases gl0 : 1048576 < l0.length
  · simp only [if_pos gl0]
    exact Ev.now _
  simp only [if_neg gl0]
  simp (disch := omega) only [if_neg]
  have el0 : l0.length ≤ 1048576 := by omega
  obtain ⟨R, hR⟩ : ∃ R, R = ans_SidesOfThree (toP l0) := ⟨_, rfl⟩
  have hS := ev_spec_SidesOfThree (toP l0)
  have hM := ev_impl_SidesOfThree (toP l0)
  rw [← hR] at hS hM
  have hb := ans_SidesOfThree_len (toP l0)
  rw [← hR] at hb
  repeat (first | exact Ev.now _ | refine Ev.bind (ev_toPegS l0 el0) ?_ | refine Ev.bind hS ?_ | refine Ev.bind hM ?_ | refine Ev.bind (ev_eqPegS (toP l0) (by rw [toP_length]; omega)) ?_ | refine Ev.bind (ev_eqIntS _ hb) ?_ | refine Ev.bind (ev_markIntS _ _ hb (by omega)) ?_ | refine Ev.bind (ev_heldIntS _ _ hb (by omega)) ?_ | refine Ev.bind (ev_markPegS (toP l0) 1 (by rw [toP_length]; omega) (by omega)) ?_ | simp only [eq_self, if_true, bne_self_eq_false, Bool.false_eq_true, if_false, Option.bind_some] | simp (disch := omega) only [if_neg, if_pos] | (refine Ev.succ ?_; simp only [laws_FnExactSidesOfThree.j0, laws_FnExactSidesOfThree.j1, laws_FnExactSidesOfThree.j2, Bool.false_eq_true, if_false]))

end Go.Proofs.Ytiacfkilmknldaa.Pure
