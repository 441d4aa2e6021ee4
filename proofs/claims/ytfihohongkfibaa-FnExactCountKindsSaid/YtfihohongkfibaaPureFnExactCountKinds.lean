-- thin
/- The law FnExactCountKinds holds: for all arguments the program's CountKinds answers as the reference's, and the arguments are left as they were. No condition. -/
import Derived.Test.YtfihohongkfibaaX0
import Derived.Test.YtfihohongkfibaaX21
import Derived.Test.YtfihohongkfibaaX23
import Derived.Test.YtfihohongkfibaaX24
import Derived.Test.YtfihohongkfibaaBBase
import Derived.Test.YtfihohongkfibaaBCore
import Derived.Test.YtfihohongkfibaaBPoly
import Derived.Test.YtfihohongkfibaaBAsk
import Derived.Test.YtfihohongkfibaaBTold
import Derived.Test.YtfihohongkfibaaBOrder
import Derived.Test.YtfihohongkfibaaBGcd
import Derived.Test.YtfihohongkfibaaBFrame
import Derived.Test.YtfihohongkfibaaBKind
import Derived.Test.YtfihohongkfibaaBKinds
namespace Go.Proofs.Ytfihohongkfibaa.Pure
open Go.RowKit Go.Proofs.Ytfihohongkfibaa.XW Go.Proofs.Ytfihohongkfibaa.X Go.Proofs.YtfihohongkfibaaW.PrintWords Go.Proofs.YtfihohongkfibaaW.PrintLast Go.Proofs.Ytfihohongkfibaa.B
set_option linter.unusedVariables false
set_option linter.unusedSimpArgs false
set_option maxRecDepth 20000

def ans_CountKinds (w : Int) : Int × Bool := if (decide (1 ≤ w) && decide (w ≤ 60)) = true then (((outN w w.toNat).length : Int), true) else (0, false)
theorem ev_spec_CountKinds (w : Int) : Ev (fun k => spec_CountKinds.f k w) (ans_CountKinds w) := by
 unfold spec_CountKinds.f ans_CountKinds
 simp only [spec_in_eq, Option.bind_some]
 cases hx : (decide (1 ≤ w) && decide (w ≤ 60)) with
 | true =>
  simp only [if_true]
  simp only [Bool.and_eq_true, decide_eq_true_eq] at hx
  exact Ev.bind (ev_spec_kinds hx) (Ev.now _)
 | false =>
  simp only [Bool.false_eq_true, if_false]
  exact Ev.now _
theorem ev_impl_CountKinds (w : Int) : Ev (fun k => impl_CountKinds.f k w) (ans_CountKinds w) := by
 unfold impl_CountKinds.f impl_KindsOfArea.f ans_CountKinds
 simp only [impl_within_eq, Option.bind_some]
 cases hx : (decide (1 ≤ w) && decide (w ≤ 60)) with
 | true =>
  simp only [if_true]
  simp only [Bool.and_eq_true, decide_eq_true_eq] at hx
  exact Ev.bind (ev_impl_kinds hx) (Ev.now _)
 | false =>
  simp only [Bool.false_eq_true, if_false, Option.bind_some]
  exact Ev.now _
theorem FnExactCountKinds : laws_FnExactCountKinds.Pure := by
 intro x0 hx0
 refine Ev.rounds ?_
 unfold laws_FnExactCountKinds.f
 obtain ⟨R, hR⟩ : ∃ R, R = ans_CountKinds x0 := ⟨_, rfl⟩
 have hS := ev_spec_CountKinds x0
 have hM := ev_impl_CountKinds x0
 rw [← hR] at hS hM
 repeat (first | exact Ev.now _ | refine Ev.bind hS ?_ | refine Ev.bind hM ?_ | simp only [eq_self, if_true, bne_self_eq_false, Bool.false_eq_true, if_false, Option.bind_some] | simp (disch := omega) only [if_neg, if_pos] | (refine Ev.succ ?_; simp only [eq_self, Bool.false_eq_true, if_false]))

end Go.Proofs.Ytfihohongkfibaa.Pure
