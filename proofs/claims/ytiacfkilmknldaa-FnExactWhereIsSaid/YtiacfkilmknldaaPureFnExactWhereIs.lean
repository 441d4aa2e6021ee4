/- The law FnExactWhereIs holds: for all arguments the program's WhereIs answers as the reference's, and the arguments are left as they were. No condition. -/
import Derived.Test.YtiacfkilmknldaaX0
import Derived.Test.YtiacfkilmknldaaX6
import Derived.Test.YtiacfkilmknldaaX16
import Derived.Test.YtiacfkilmknldaaX18
import Derived.Test.YtiacfkilmknldaaX19
import Derived.Test.YtiacfkilmknldaaBBase
import Derived.Test.YtiacfkilmknldaaBCore
import Derived.Test.YtiacfkilmknldaaBPoly
import Derived.Test.YtiacfkilmknldaaBArea
import Derived.Test.YtiacfkilmknldaaBWhere
namespace Go.Proofs.Ytiacfkilmknldaa.Pure
open Go.RowKit Go.Proofs.Ytiacfkilmknldaa.XW Go.Proofs.Ytiacfkilmknldaa.X Go.Proofs.YtiacfkilmknldaaW.PrintWords Go.Proofs.YtiacfkilmknldaaW.PrintLast Go.Proofs.Ytiacfkilmknldaa.B
set_option linter.unusedVariables false
set_option linter.unusedSimpArgs false
set_option maxRecDepth 20000

noncomputable def ans_WhereIs (l : List S_impl_Peg) (x y : Int) : Int × Bool := if good l = true then (if decide (Sm 40 ⟨x, y⟩) = true then (wh l ⟨x, y⟩, true) else (0, false)) else (0, false)
theorem ev_spec_WhereIs (l : List S_impl_Peg) (x y : Int) : Ev (fun k => spec_WhereIs.f k l x y) (ans_WhereIs l x y) := by
  unfold spec_WhereIs.f ans_WhereIs
  refine askS l (fun ok => ?_) (Ev.now _)
  have e := is_peg_eq ⟨x, y⟩
  simp only at e
  simp only [if_true, e, Option.bind_some]
  by_cases h : Sm 40 ⟨x, y⟩
  · simp only [h, decide_true, if_true]
    exact Ev.bind (ok.swhere (h.mono (by omega))) (Ev.now _)
  · simp only [h, decide_false, Bool.false_eq_true, if_false]
    exact Ev.now _
theorem ev_impl_WhereIs (l : List S_impl_Peg) (x y : Int) : Ev (fun k => impl_WhereIs.f k l x y) (ans_WhereIs l x y) := by
  unfold impl_WhereIs.f ans_WhereIs
  refine askI l (fun ok => ?_) (Ev.now _)
  have e := is_peg_impl ⟨x, y⟩
  simp only at e
  simp only [if_true, e, Option.bind_some]
  by_cases h : Sm 40 ⟨x, y⟩
  · simp only [h, decide_true, if_true]
    exact Ev.bind (ok.where_ (h.mono (by omega))) (Ev.now _)
  · simp only [h, decide_false, Bool.false_eq_true, if_false]
    exact Ev.now _
theorem FnExactWhereIs : laws_FnExactWhereIs.Pure := by
  intro l0 x1 y1 hl0 hx1 hy1
  have hl0 := hl0.1
  refine Ev.rounds ?_
  unfold laws_FnExactWhereIs.f
  rw [szPegS_eq l0 hl0]
  simp only [Option.bind_some]
  by_cases gl0 : 1048576 < l0.length
  · simp only [if_pos gl0]
    exact Ev.now _
  simp only [if_neg gl0]
  simp (disch := omega) only [if_neg]
  have el0 : l0.length ≤ 1048576 := by omega
  obtain ⟨R, hR⟩ : ∃ R, R = ans_WhereIs (toP l0) x1 y1 := ⟨_, rfl⟩
  have hS := ev_spec_WhereIs (toP l0) x1 y1
  have hM := ev_impl_WhereIs (toP l0) x1 y1
  rw [← hR] at hS hM
  repeat (first | exact Ev.now _ | refine Ev.bind (ev_toPegS l0 el0) ?_ | refine Ev.bind hS ?_ | refine Ev.bind hM ?_ | refine Ev.bind (ev_eqPegS (toP l0) (by rw [toP_length]; omega)) ?_ | simp only [eq_self, if_true, bne_self_eq_false, Bool.false_eq_true, if_false, Option.bind_some, laws_toPeg.f] | simp (disch := omega) only [if_neg, if_pos] | (refine Ev.succ ?_; simp only [laws_FnExactWhereIs.j0, Bool.false_eq_true, if_false]))

end Go.Proofs.Ytiacfkilmknldaa.Pure
