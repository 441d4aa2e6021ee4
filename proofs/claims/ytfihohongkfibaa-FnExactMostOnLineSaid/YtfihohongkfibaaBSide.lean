-- thin
/- A point inside a polygon or on it lies between the corners in each direction. -/
import Derived.Test.YtfihohongkfibaaX0
import Derived.Test.YtfihohongkfibaaBBase
import Derived.Test.YtfihohongkfibaaBCore
import Derived.Test.YtfihohongkfibaaBPoly
import Derived.Test.YtfihohongkfibaaBAsk
import Derived.Test.YtfihohongkfibaaBArea
import Derived.Test.YtfihohongkfibaaBMinMax
import Derived.Test.YtfihohongkfibaaBWhere
import Derived.Test.YtfihohongkfibaaBBox
import Derived.Test.YtfihohongkfibaaBGrid
import Derived.Test.YtfihohongkfibaaBRange
namespace Go.Proofs.Ytfihohongkfibaa.B
open Go.RowKit Go.Proofs.Ytfihohongkfibaa.XW Go.Proofs.Ytfihohongkfibaa.X Go.Proofs.YtfihohongkfibaaW.PrintWords Go.Proofs.YtfihohongkfibaaW.PrintLast Go.Proofs.Ytfihohongkfibaa.B
set_option linter.unusedVariables false
set_option linter.unusedSimpArgs false
set_option maxRecDepth 20000

theorem vl_lin (u v : Int) (a b p : S_impl_Peg) : (p.f1 - a.f1) * (vl u v b - vl u v p) + (b.f1 - p.f1) * (vl u v a - vl u v p) = u * tn a b p := by
 unfold vl tn
 grind
theorem vl_sg {u v : Int} {a b p : S_impl_Peg} (ha : vl u v a < vl u v p) (hb : vl u v b < vl u v p) (c1 : a.f1 ≤ p.f1) (c2 : p.f1 < b.f1) : u * tn a b p < 0 := by
 rw [← vl_lin u v]
 have n1 : (p.f1 - a.f1) * (vl u v b - vl u v p) ≤ 0 := Int.mul_nonpos_of_nonneg_of_nonpos (by omega) (by omega)
 have n2 : (b.f1 - p.f1) * (vl u v a - vl u v p) < 0 := Int.mul_neg_of_pos_of_neg (by omega) (by omega)
 omega
theorem tg_up {u v : Int} {a b p : S_impl_Peg} (hu : 0 ≤ u) (ha : vl u v a < vl u v p) (hb : vl u v b < vl u v p) : tg a b p = false := by
 have key : ∀ lo hi : S_impl_Peg, vl u v lo < vl u v p → vl u v hi < vl u v p → (decide (lo.f1 ≤ p.f1) && (decide (p.f1 < hi.f1) && decide (tn lo hi p > 0))) = false := by
  intro lo hi h1 h2
  by_cases c1 : lo.f1 ≤ p.f1
  ·by_cases c2 : p.f1 < hi.f1
   ·have : ¬ tn lo hi p > 0 := fun h => by
     have := vl_sg h1 h2 c1 c2
     have := Int.mul_nonneg (a := u) (b := tn lo hi p) hu (by omega)
     omega
    simp [this]
   ·simp [c2]
  ·simp [c1]
 unfold tg
 split
 ·exact key b a hb ha
 ·exact key a b ha hb
theorem tg_dn {u v : Int} {a b p : S_impl_Peg} (hu : u ≤ 0) (ha : vl u v a < vl u v p) (hb : vl u v b < vl u v p) : tg a b p = (decide (a.f1 > p.f1) != decide (b.f1 > p.f1)) := by
 have key : ∀ lo hi : S_impl_Peg, vl u v lo < vl u v p → vl u v hi < vl u v p → lo.f1 ≤ p.f1 → p.f1 < hi.f1 → tn lo hi p > 0 := by
  intro lo hi h1 h2 c1 c2
  have h3 := vl_sg h1 h2 c1 c2
  by_cases h : tn lo hi p > 0
  ·exact h
  ·have := Int.mul_nonneg_of_nonpos_of_nonpos hu (show tn lo hi p ≤ 0 by omega)
   omega
 unfold tg
 split
 ·rename_i hg
  by_cases c1 : b.f1 ≤ p.f1
  ·by_cases c2 : p.f1 < a.f1
   ·have := key b a hb ha c1 c2
    have x1 : a.f1 > p.f1 := c2
    have x2 : ¬ b.f1 > p.f1 := by omega
    simp [c1, this, x1, x2]
   ·have x1 : ¬ a.f1 > p.f1 := by omega
    have x2 : ¬ b.f1 > p.f1 := by omega
    simp [c2, x1, x2]
  ·have x1 : a.f1 > p.f1 := by omega
   have x2 : b.f1 > p.f1 := by omega
   simp [c1, x1, x2]
 ·rename_i hg
  by_cases c1 : a.f1 ≤ p.f1
  ·by_cases c2 : p.f1 < b.f1
   ·have := key a b ha hb c1 c2
    have x1 : b.f1 > p.f1 := c2
    have x2 : ¬ a.f1 > p.f1 := by omega
    simp [c1, this, x1, x2]
   ·have x1 : ¬ a.f1 > p.f1 := by omega
    have x2 : ¬ b.f1 > p.f1 := by omega
    simp [c2, x1, x2]
  ·have x1 : b.f1 > p.f1 := by omega
   have x2 : a.f1 > p.f1 := by omega
   simp [c1, x1, x2]
theorem whr_off {l : List S_impl_Peg} {p : S_impl_Peg} (h : ∀ i, i < l.length → onb (pt l i) (pt l (nx l.length i)) p = false) : ∀ d i s, i + d = l.length → whr l p d i s ≠ 0 := by
 intro d
 induction d with
 | zero =>
  intro i s hi
  unfold whr
  split <;> omega
 | succ d ih =>
  intro i s hi
  unfold whr
  rw [h i (by omega)]
  simp only [Bool.false_eq_true, if_false]
  exact ih (i + 1) _ (by omega)
theorem on_off {u v : Int} {a b p : S_impl_Peg} (ha : vl u v a < vl u v p) (hb : vl u v b < vl u v p) : onb a b p = false := by
 by_cases h : onb a b p = true
 ·exfalso
  unfold onb at h
  simp only [Bool.and_eq_true, decide_eq_true_eq] at h
  obtain ⟨h1, h2, h3⟩ := h
  have key : ∀ x y : Int, x * y ≤ 0 → (0 ≤ x ∧ y ≤ 0) ∨ (x ≤ 0 ∧ 0 ≤ y) := by
   intro x y hxy
   by_cases c1 : 0 < x
   ·by_cases c2 : 0 < y
    ·have := Int.mul_pos c1 c2
     omega
    ·omega
   ·by_cases c3 : x = 0
    ·omega
    ·by_cases c2 : y < 0
     ·have := Int.mul_pos_of_neg_of_neg (show x < 0 by omega) c2
      omega
     ·omega
  by_cases e1 : a.f1 = p.f1 ∧ b.f1 = p.f1
  ·have e2 : vl u v a - vl u v p = u * (a.f0 - p.f0) := by unfold vl; rw [e1.1]; grind
   have e3 : vl u v b - vl u v p = u * (b.f0 - p.f0) := by unfold vl; rw [e1.2]; grind
   have e4 : (vl u v a - vl u v p) * (vl u v b - vl u v p) = (u * u) * ((a.f0 - p.f0) * (b.f0 - p.f0)) := by rw [e2, e3]; grind
   have n1 := Int.mul_pos_of_neg_of_neg (a := vl u v a - vl u v p) (b := vl u v b - vl u v p) (by omega) (by omega)
   have n2 := Int.mul_nonpos_of_nonneg_of_nonpos (sqr_nonneg u) h2
   omega
  ·have h4 := vl_lin u v a b p
   rw [h1, Int.mul_zero] at h4
   rcases key _ _ h3 with ⟨g1, g2⟩ | ⟨g1, g2⟩
   ·have n1 : 0 ≤ (p.f1 - a.f1) * (vl u v b - vl u v p) := Int.mul_nonneg_of_nonpos_of_nonpos (by omega) (by omega)
    have n2 : 0 ≤ (b.f1 - p.f1) * (vl u v a - vl u v p) := Int.mul_nonneg_of_nonpos_of_nonpos (by omega) (by omega)
    by_cases c : a.f1 = p.f1
    ·have := Int.mul_pos_of_neg_of_neg (a := b.f1 - p.f1) (b := vl u v a - vl u v p) (by omega) (by omega)
     omega
    ·have := Int.mul_pos_of_neg_of_neg (a := p.f1 - a.f1) (b := vl u v b - vl u v p) (by omega) (by omega)
     omega
   ·have n1 : (p.f1 - a.f1) * (vl u v b - vl u v p) ≤ 0 := Int.mul_nonpos_of_nonneg_of_nonpos (by omega) (by omega)
    have n2 : (b.f1 - p.f1) * (vl u v a - vl u v p) ≤ 0 := Int.mul_nonpos_of_nonneg_of_nonpos (by omega) (by omega)
    by_cases c : a.f1 = p.f1
    ·have := Int.mul_neg_of_pos_of_neg (a := b.f1 - p.f1) (b := vl u v a - vl u v p) (by omega) (by omega)
     omega
    ·have := Int.mul_neg_of_pos_of_neg (a := p.f1 - a.f1) (b := vl u v b - vl u v p) (by omega) (by omega)
     omega
 ·simpa using h
/-- All corners lie on one side of a straight line through the point: it is outside. -/
theorem wh_side {l : List S_impl_Peg} (h0 : 0 < l.length) (u v : Int) {p : S_impl_Peg} (h : ∀ i, i < l.length → vl u v (pt l i) < vl u v p) : wh l p < 0 := by
 have h1 : wh l p ≠ 0 := whr_off (fun i hi => on_off (h i hi) (h _ (nx_lt hi))) _ _ _ (by omega)
 have h2 : wh l p ≤ 0 := by
  unfold wh
  by_cases hu : 0 ≤ u
  ·exact whr_none (fun i hi => tg_up hu (h i hi) (h _ (nx_lt hi))) l.length 0 (by omega)
  ·have := whr_even (l := l) (p := p) (fun i hi => tg_dn (by omega) (h i hi) (h _ (nx_lt hi))) l.length 0 (by omega)
   rw [if_neg (show ¬ 0 = l.length by omega)] at this
   simpa using this
 omega
/-- A point that isn't outside lies between the corners in each direction. -/
theorem wh_range {l : List S_impl_Peg} (h0 : 0 < l.length) (u v : Int) {p : S_impl_Peg} (h : 0 ≤ wh l p) : mnN (fun i => vl u v (pt l i)) l.length ≤ vl u v p ∧ vl u v p ≤ mxN (fun i => vl u v (pt l i)) l.length := by
 constructor
 ·by_cases c : mnN (fun i => vl u v (pt l i)) l.length ≤ vl u v p
  ·exact c
  ·have := wh_side h0 (-u) (-v) (p := p) (l := l) (fun i hi => by
    have := mnN_le (f := fun i => vl u v (pt l i)) (m := l.length) i hi
    have e : ∀ q : S_impl_Peg, vl (-u) (-v) q = - vl u v q := fun q => by unfold vl; grind
    rw [e, e]
    omega)
   omega
 ·by_cases c : vl u v p ≤ mxN (fun i => vl u v (pt l i)) l.length
  ·exact c
  ·have := wh_side h0 u v (p := p) (l := l) (fun i hi => by
    have := le_mxN (f := fun i => vl u v (pt l i)) (m := l.length) i hi
    omega)
   omega
theorem wh_box' {l : List S_impl_Peg} (h0 : 0 < l.length) (p : S_impl_Peg) (h : p.f0 < mnN (fun i => (pt l i).f0) l.length ∨ mxN (fun i => (pt l i).f0) l.length < p.f0 ∨ p.f1 < mnN (fun i => (pt l i).f1) l.length ∨ mxN (fun i => (pt l i).f1) l.length < p.f1) : wh l p < 0 := by
 by_cases c : wh l p < 0
 ·exact c
 ·have a := wh_range h0 1 0 (l := l) (p := p) (by omega)
  have b := wh_range h0 0 1 (l := l) (p := p) (by omega)
  have e0 : ∀ q : S_impl_Peg, vl 1 0 q = q.f0 := fun q => by unfold vl; omega
  have e1 : ∀ q : S_impl_Peg, vl 0 1 q = q.f1 := fun q => by unfold vl; omega
  simp only [e0] at a
  simp only [e1] at b
  omega

end Go.Proofs.Ytfihohongkfibaa.B
