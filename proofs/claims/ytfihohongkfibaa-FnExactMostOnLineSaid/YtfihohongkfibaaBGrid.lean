-- thin
/- Points inside lie in the box; lists of points column by column. -/
import Derived.Test.YtfihohongkfibaaX0
import Derived.Test.YtfihohongkfibaaBBase
import Derived.Test.YtfihohongkfibaaBCore
import Derived.Test.YtfihohongkfibaaBPoly
import Derived.Test.YtfihohongkfibaaBAsk
import Derived.Test.YtfihohongkfibaaBMinMax
import Derived.Test.YtfihohongkfibaaBWhere
namespace Go.Proofs.Ytfihohongkfibaa.B
open Go.RowKit Go.Proofs.Ytfihohongkfibaa.XW Go.Proofs.Ytfihohongkfibaa.X Go.Proofs.YtfihohongkfibaaW.PrintWords Go.Proofs.YtfihohongkfibaaW.PrintLast Go.Proofs.Ytfihohongkfibaa.B
set_option linter.unusedVariables false
set_option linter.unusedSimpArgs false
set_option maxRecDepth 20000

theorem tg_right {a b p : S_impl_Peg} (ha : a.f0 < p.f0) (hb : b.f0 < p.f0) : tg a b p = false := by
 have key : ∀ lo hi : S_impl_Peg, lo.f0 < p.f0 → hi.f0 < p.f0 → (decide (lo.f1 ≤ p.f1) && (decide (p.f1 < hi.f1) && decide (tn lo hi p > 0))) = false := by
  intro lo hi h1 h2
  by_cases c1 : lo.f1 ≤ p.f1
  ·by_cases c2 : p.f1 < hi.f1
   ·have : ¬ tn lo hi p > 0 := by
     unfold tn
     have e1 : (hi.f0 - lo.f0) * (p.f1 - lo.f1) ≤ (p.f0 - lo.f0) * (p.f1 - lo.f1) := Int.mul_le_mul_of_nonneg_right (by omega) (by omega)
     have e2 : (p.f0 - lo.f0) * (p.f1 - lo.f1) ≤ (p.f0 - lo.f0) * (hi.f1 - lo.f1) := Int.mul_le_mul_of_nonneg_left (by omega) (by omega)
     have e3 := Int.mul_comm (p.f0 - lo.f0) (hi.f1 - lo.f1)
     omega
    simp [this]
   ·simp [c2]
  ·simp [c1]
 unfold tg
 split
 ·exact key b a hb ha
 ·exact key a b ha hb
theorem tg_left {a b p : S_impl_Peg} (ha : p.f0 < a.f0) (hb : p.f0 < b.f0) : tg a b p = (decide (a.f1 > p.f1) != decide (b.f1 > p.f1)) := by
 have key : ∀ lo hi : S_impl_Peg, p.f0 < lo.f0 → p.f0 < hi.f0 → lo.f1 ≤ p.f1 → p.f1 < hi.f1 → tn lo hi p > 0 := by
  intro lo hi h1 h2 c1 c2
  unfold tn
  have e1 : (p.f0 - lo.f0) * (p.f1 - lo.f1) ≤ (hi.f0 - lo.f0) * (p.f1 - lo.f1) := Int.mul_le_mul_of_nonneg_right (by omega) (by omega)
  have e2 := Int.mul_pos (a := lo.f0 - p.f0) (b := hi.f1 - p.f1) (by omega) (by omega)
  have e3 : (lo.f0 - p.f0) * (hi.f1 - p.f1) = (p.f0 - lo.f0) * (p.f1 - lo.f1) - (hi.f1 - lo.f1) * (p.f0 - lo.f0) := by grind
  omega
 unfold tg
 split
 ·rename_i hg
  by_cases c1 : b.f1 ≤ p.f1
  ·by_cases c2 : p.f1 < a.f1
   ·have := key b a hb ha c1 c2
    have x1 : a.f1 > p.f1 := c2
    have x2 : ¬ b.f1 > p.f1 := by omega
    simp [c1, this, x1, x2]
   ·have x1 : ¬ a.f1 > p.f1 := by omega
    have x2 : ¬ b.f1 > p.f1 := by omega
    simp [c2, x1, x2]
  ·have x1 : a.f1 > p.f1 := by omega
   have x2 : b.f1 > p.f1 := by omega
   simp [c1, x1, x2]
 ·rename_i hg
  by_cases c1 : a.f1 ≤ p.f1
  ·by_cases c2 : p.f1 < b.f1
   ·have := key a b ha hb c1 c2
    have x1 : b.f1 > p.f1 := c2
    have x2 : ¬ a.f1 > p.f1 := by omega
    simp [c1, this, x1, x2]
   ·have x1 : ¬ a.f1 > p.f1 := by omega
    have x2 : ¬ b.f1 > p.f1 := by omega
    simp [c2, x1, x2]
  ·have x1 : a.f1 > p.f1 := by omega
   have x2 : b.f1 > p.f1 := by omega
   simp [c1, x1, x2]
theorem tg_level {a b p : S_impl_Peg} (h : (a.f1 ≤ p.f1 ∧ b.f1 ≤ p.f1) ∨ (p.f1 < a.f1 ∧ p.f1 < b.f1)) : tg a b p = false := by
 unfold tg
 split
 ·by_cases c1 : b.f1 ≤ p.f1
  ·have c2 : ¬ p.f1 < a.f1 := by omega
   simp [c2]
  ·simp [c1]
 ·by_cases c1 : a.f1 ≤ p.f1
  ·have c2 : ¬ p.f1 < b.f1 := by omega
   simp [c2]
  ·simp [c1]
theorem whr_none {l : List S_impl_Peg} {p : S_impl_Peg} (h : ∀ i, i < l.length → tg (pt l i) (pt l (nx l.length i)) p = false) : ∀ d i, i + d = l.length → whr l p d i false ≤ 0 := by
 intro d
 induction d with
 | zero =>
  intro i hi
  show (if false = true then (1 : Int) else -1) ≤ 0
  simp
 | succ d ih =>
  intro i hi
  unfold whr
  split
  ·omega
  ·rw [h i (by omega)]
   exact ih (i + 1) (by omega)
theorem whr_even {l : List S_impl_Peg} {p : S_impl_Peg} (h : ∀ i, i < l.length → tg (pt l i) (pt l (nx l.length i)) p = (decide ((pt l i).f1 > p.f1) != decide ((pt l (nx l.length i)).f1 > p.f1))) :
  ∀ d i, i + d = l.length → whr l p d i (decide ((pt l 0).f1 > p.f1) != decide ((pt l (if i = l.length then 0 else i)).f1 > p.f1)) ≤ 0 := by
 intro d
 induction d with
 | zero =>
  intro i hi
  unfold whr
  rw [if_pos (show i = l.length by omega)]
  simp
 | succ d ih =>
  intro i hi
  unfold whr
  split
  ·omega
  ·rw [if_neg (show ¬ i = l.length by omega), h i (by omega)]
   have e := ih (i + 1) (by omega)
   have e2 : (if i + 1 = l.length then 0 else i + 1) = nx l.length i := rfl
   rw [e2] at e
   revert e
   generalize decide ((pt l 0).f1 > p.f1) = x
   generalize decide ((pt l i).f1 > p.f1) = y
   generalize decide ((pt l (nx l.length i)).f1 > p.f1) = z
   intro e
   cases x <;> cases y <;> cases z <;> exact e
theorem wh_box {l : List S_impl_Peg} (h0 : 0 < l.length) (p : S_impl_Peg) (h : p.f0 < mnN (fun i => (pt l i).f0) l.length ∨ mxN (fun i => (pt l i).f0) l.length < p.f0 ∨ p.f1 < mnN (fun i => (pt l i).f1) l.length ∨ mxN (fun i => (pt l i).f1) l.length < p.f1) : wh l p ≤ 0 := by
 unfold wh
 have lo0 := mnN_le (f := fun i => (pt l i).f0) (m := l.length)
 have lo1 := mnN_le (f := fun i => (pt l i).f1) (m := l.length)
 have hi0 := le_mxN (f := fun i => (pt l i).f0) (m := l.length)
 have hi1 := le_mxN (f := fun i => (pt l i).f1) (m := l.length)
 rcases h with h | h | h | h
 ·have := whr_even (l := l) (p := p) (fun i hi => tg_left (by have := lo0 i hi; omega) (by have := lo0 _ (nx_lt hi); omega)) l.length 0 (by omega)
  rw [if_neg (show ¬ 0 = l.length by omega)] at this
  simpa using this
 ·exact whr_none (fun i hi => tg_right (by have := hi0 i hi; omega) (by have := hi0 _ (nx_lt hi); omega)) l.length 0 (by omega)
 ·exact whr_none (fun i hi => tg_level (Or.inr ⟨by have := lo1 i hi; omega, by have := lo1 _ (nx_lt hi); omega⟩)) l.length 0 (by omega)
 ·exact whr_none (fun i hi => tg_level (Or.inl ⟨by have := hi1 i hi; omega, by have := hi1 _ (nx_lt hi); omega⟩)) l.length 0 (by omega)
/-- Lists one behind the other, for d numbers from x on. -/
def seg (f : Int → List S_impl_Peg) : Nat → Int → List S_impl_Peg
 | 0, _ => []
 | d + 1, x => f x ++ seg f d (x + 1)
theorem seg_append (f : Int → List S_impl_Peg) : ∀ (m n : Nat) (x : Int), seg f (m + n) x = seg f m x ++ seg f n (x + m) := by
 intro m
 induction m with
 | zero =>
  intro n x
  simp [seg]
 | succ m ih =>
  intro n x
  rw [show m + 1 + n = (m + n) + 1 by omega]
  show f x ++ seg f (m + n) (x + 1) = f x ++ seg f m (x + 1) ++ _
  rw [ih, List.append_assoc, show x + 1 + (m : Int) = x + ((m + 1 : Nat) : Int) by omega]
theorem seg_nil {f : Int → List S_impl_Peg} : ∀ (d : Nat) (x : Int), (∀ y, x ≤ y → y < x + d → f y = []) → seg f d x = [] := by
 intro d
 induction d with
 | zero =>
  intro x h
  rfl
 | succ d ih =>
  intro x h
  show f x ++ seg f d (x + 1) = []
  rw [h x (by omega) (by omega), ih (x + 1) (fun y a b => h y (by omega) (by omega))]
  rfl
theorem seg_congr {f g : Int → List S_impl_Peg} : ∀ (d : Nat) (x : Int), (∀ y, x ≤ y → y < x + d → f y = g y) → seg f d x = seg g d x := by
 intro d
 induction d with
 | zero =>
  intro x h
  rfl
 | succ d ih =>
  intro x h
  show f x ++ seg f d (x + 1) = g x ++ seg g d (x + 1)
  rw [h x (by omega) (by omega), ih (x + 1) (fun y a b => h y (by omega) (by omega))]
theorem seg_len {f : Int → List S_impl_Peg} {B : Nat} : ∀ (d : Nat) (x : Int), (∀ y, (f y).length ≤ B) → (seg f d x).length ≤ B * d := by
 intro d
 induction d with
 | zero =>
  intro x h
  show 0 ≤ _
  omega
 | succ d ih =>
  intro x h
  show (f x ++ seg f d (x + 1)).length ≤ _
  rw [List.length_append, Nat.mul_succ]
  have := ih (x + 1) h
  have := h x
  omega
/-- A part of a range outside of which there is nothing. -/
theorem seg_part {f : Int → List S_impl_Peg} {d : Nat} {x lo hi : Int} (h1 : x ≤ lo) (h2 : lo ≤ hi + 1) (h3 : hi < x + d) (h : ∀ y, (y < lo ∨ hi < y) → f y = []) : seg f d x = seg f (hi - lo + 1).toNat lo := by
 have e : d = (lo - x).toNat + ((hi - lo + 1).toNat + (x + d - hi - 1).toNat) := by omega
 rw [e, seg_append, seg_append, seg_nil (lo - x).toNat x (fun y a b => h y (Or.inl (by omega))), show x + ((lo - x).toNat : Int) = lo by omega, seg_nil (x + d - hi - 1).toNat _ (fun y a b => h y (Or.inr (by omega)))]
 simp

end Go.Proofs.Ytfihohongkfibaa.B
