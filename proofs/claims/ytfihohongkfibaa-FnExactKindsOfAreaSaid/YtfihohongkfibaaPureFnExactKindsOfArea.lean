-- thin
/- The law FnExactKindsOfArea holds: for all arguments the program's KindsOfArea answers as the reference's, and its rows lie apart from each other and from those of another call. No condition. -/
import Derived.Test.YtfihohongkfibaaX0
import Derived.Test.YtfihohongkfibaaX23
import Derived.Test.YtfihohongkfibaaX26
import Derived.Test.YtfihohongkfibaaX27
import Derived.Test.YtfihohongkfibaaBBase
import Derived.Test.YtfihohongkfibaaBCore
import Derived.Test.YtfihohongkfibaaBPoly
import Derived.Test.YtfihohongkfibaaBAsk
import Derived.Test.YtfihohongkfibaaBTold
import Derived.Test.YtfihohongkfibaaBOrder
import Derived.Test.YtfihohongkfibaaBGcd
import Derived.Test.YtfihohongkfibaaBFrame
import Derived.Test.YtfihohongkfibaaBKind
import Derived.Test.YtfihohongkfibaaBKinds
import Derived.Test.YtfihohongkfibaaBEqIntS
import Derived.Test.YtfihohongkfibaaBMarkI
import Derived.Test.YtfihohongkfibaaBMarkSI
namespace Go.Proofs.Ytfihohongkfibaa.Pure
open Go.RowKit Go.Proofs.Ytfihohongkfibaa.XW Go.Proofs.Ytfihohongkfibaa.X Go.Proofs.YtfihohongkfibaaW.PrintWords Go.Proofs.YtfihohongkfibaaW.PrintLast Go.Proofs.Ytfihohongkfibaa.B
set_option linter.unusedVariables false
set_option linter.unusedSimpArgs false
set_option maxRecDepth 20000

def ans_KindsOfArea (w : Int) : List (List Int) × Bool := if (decide (1 ≤ w) && decide (w ≤ 60)) = true then (outN w w.toNat, true) else ([], false)
theorem inN_three (a d : Int) : ∀ n r, r ∈ inN a d n → r.length = 3 := by
 intro n
 induction n with
 | zero =>
  intro r h
  exact absurd h (by simp [inN])
 | succ n ih =>
  intro r h
  unfold inN at h
  split at h
  ·rw [List.mem_append, List.mem_singleton] at h
   rcases h with h | rfl
   ·exact ih r h
   ·rfl
  ·exact ih r h
theorem outN_three (w : Int) : ∀ n r, r ∈ outN w n → r.length = 3 := by
 intro n
 induction n with
 | zero =>
  intro r h
  exact absurd h (by simp [outN])
 | succ n ih =>
  intro r h
  rw [outN_succ] at h
  split at h
  ·rw [List.mem_append] at h
   rcases h with h | h
   ·exact ih r h
   ·exact inN_three _ _ _ r h
  ·exact ih r h
theorem ans_short (w : Int) : Short (ans_KindsOfArea w).1 := by
 unfold ans_KindsOfArea
 cases hx : (decide (1 ≤ w) && decide (w ≤ 60)) with
 | true =>
  simp only [Bool.and_eq_true, decide_eq_true_eq] at hx
  have := outN_len hx w.toNat (by omega)
  simp only [if_true]
  exact Short.of (by omega) (fun r hr => by rw [outN_three w _ r hr]; omega)
 | false =>
  simp only [Bool.false_eq_true, if_false]
  exact Short.of (by simp) (fun r hr => absurd hr (by simp))
theorem ev_spec_KindsOfArea (w : Int) : Ev (fun k => spec_KindsOfArea.f k w) (ans_KindsOfArea w) := by
 unfold spec_KindsOfArea.f ans_KindsOfArea
 simp only [spec_in_eq, Option.bind_some]
 cases hx : (decide (1 ≤ w) && decide (w ≤ 60)) with
 | true =>
  simp only [if_true]
  simp only [Bool.and_eq_true, decide_eq_true_eq] at hx
  exact Ev.bind (ev_spec_kinds hx) (Ev.now _)
 | false =>
  simp only [Bool.false_eq_true, if_false]
  exact Ev.now _
theorem ev_impl_KindsOfArea (w : Int) : Ev (fun k => impl_KindsOfArea.f k w) (ans_KindsOfArea w) := by
 unfold impl_KindsOfArea.f ans_KindsOfArea
 simp only [impl_within_eq, Option.bind_some]
 cases hx : (decide (1 ≤ w) && decide (w ≤ 60)) with
 | true =>
  simp only [if_true]
  simp only [Bool.and_eq_true, decide_eq_true_eq] at hx
  exact ev_impl_kinds hx
 | false =>
  simp only [Bool.false_eq_true, if_false]
  exact Ev.now _
theorem FnExactKindsOfArea : laws_FnExactKindsOfArea.Pure := by
 intro x0 hx0
 refine Ev.rounds ?_
 unfold laws_FnExactKindsOfArea.f
 have hsh := ans_short x0
 have hS := ev_spec_KindsOfArea x0
 have hM := ev_impl_KindsOfArea x0
 generalize ans_KindsOfArea x0 = R at hsh hS hM
 have hc := cum_bd hsh R.1.length
 repeat (first | exact Ev.now _ | refine Ev.bind hS ?_ | refine Ev.bind hM ?_ | refine Ev.bind (ev_eqIntSS hsh) ?_ | refine Ev.bind (ev_markIntSS hsh) ?_ | refine Ev.bind (ev_heldIntSS hsh) ?_ | simp only [eq_self, if_true, bne_self_eq_false, Bool.false_eq_true, if_false, Option.bind_some] | simp (disch := omega) only [if_neg, if_pos] | (refine Ev.succ ?_; simp only [laws_FnExactKindsOfArea.j0, laws_FnExactKindsOfArea.j1, Bool.false_eq_true, if_false]))

end Go.Proofs.Ytfihohongkfibaa.Pure
