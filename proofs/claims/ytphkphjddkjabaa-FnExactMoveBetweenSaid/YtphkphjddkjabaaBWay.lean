-- thin
/- Numbers by which a peg may be moved; the corners of a polygon brought elsewhere by what captures numbers. -/
import Derived.Test.YtphkphjddkjabaaX0
import Derived.Test.YtphkphjddkjabaaX15
import Derived.Test.YtphkphjddkjabaaBBase
import Derived.Test.YtphkphjddkjabaaBCore
import Derived.Test.YtphkphjddkjabaaBPoly
import Derived.Test.YtphkphjddkjabaaBAsk
namespace Go.Proofs.Ytphkphjddkjabaa.B
open Go.RowKit Go.Proofs.Ytphkphjddkjabaa.XW Go.Proofs.Ytphkphjddkjabaa.X Go.Proofs.YtphkphjddkjabaaW.PrintWords Go.Proofs.YtphkphjddkjabaaW.PrintLast Go.Proofs.Ytphkphjddkjabaa.B
set_option linter.unusedVariables false
set_option linter.unusedSimpArgs false
set_option maxRecDepth 20000

theorem wf64 {x : Int} (h : (Lit.int .i64 x).wf = true) : -9223372036854775808 ≤ x ∧ x ≤ 9223372036854775807 := by
 unfold Lit.wf at h
 rw [Bool.and_eq_true, decide_eq_true_eq, decide_eq_true_eq, show IntKind.min .i64 = -9223372036854775808 from rfl, show IntKind.max .i64 = 9223372036854775807 from rfl] at h
 exact h
def way (x : Int) : Bool := decide (-80 ≤ x) && decide (x ≤ 80)
theorem way_iff {x : Int} : way x = true ↔ -80 ≤ x ∧ x ≤ 80 := by
 unfold way
 rw [Bool.and_eq_true, decide_eq_true_eq, decide_eq_true_eq]
theorem size_le {x : Int} (h : -9223372036854775808 ≤ x ∧ x ≤ 9223372036854775807) (h2 : ¬ way x = true) : (80 < mx x (wrap64 (-x))) ∨ x = -9223372036854775808 := by
 rw [way_iff] at h2
 by_cases e : x = -9223372036854775808
 ·exact Or.inr e
 ·refine Or.inl ?_
  rw [w64 (by omega)]
  unfold mx
  split <;> omega
theorem size_ok {x : Int} (h2 : way x = true) : mx x (wrap64 (-x)) ≤ 80 := by
 rw [way_iff] at h2
 rw [w64 (by omega)]
 unfold mx
 split <;> omega
theorem is_way_eq {x y : Int} (hx : (Lit.int .i64 x).wf = true) (hy : (Lit.int .i64 y).wf = true) : impl_isWay.f x y = some (way x && way y) := by
 have hx := wf64 hx
 have hy := wf64 hy
 unfold impl_isWay.f impl_size.f
 simp only [Option.bind_some]
 by_cases a : way x = true
 ·rw [if_pos (size_ok a)]
  by_cases b : way y = true
  ·rw [if_pos (size_ok b)]
   rw [way_iff] at a b
   rw [if_pos (by omega)]
   have : way x = true := way_iff.2 a
   have hb : way y = true := way_iff.2 b
   rw [this, hb, decide_eq_true (by omega)]
   rfl
  ·have hb : way y = false := by simpa using b
   rw [hb, Bool.and_false]
   by_cases c : mx y (wrap64 (-y)) ≤ 80
   ·rw [if_pos c]
    rcases size_le hy b with d | d
    ·omega
    ·rw [way_iff] at a
     rw [if_pos (by omega), decide_eq_false (by omega)]
   ·rw [if_neg c]
 ·have ha : way x = false := by simpa using a
  rw [ha, Bool.false_and]
  by_cases c : mx x (wrap64 (-x)) ≤ 80
  ·rw [if_pos c]
   rcases size_le hx a with d | d
   ·omega
   ·rw [if_neg (show ¬ (x > -1000) by omega)]
    split <;> rfl
  ·rw [if_neg c]

end Go.Proofs.Ytphkphjddkjabaa.B
