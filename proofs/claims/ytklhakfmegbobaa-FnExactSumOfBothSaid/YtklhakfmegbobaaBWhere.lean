-- thin
/- Where a point lies, in the reference and in the program: the two ways to count lines that cross a half line agree. -/
import Derived.Test.YtklhakfmegbobaaX0
import Derived.Test.YtklhakfmegbobaaX6
import Derived.Test.YtklhakfmegbobaaX19
import Derived.Test.YtklhakfmegbobaaBBase
import Derived.Test.YtklhakfmegbobaaBCore
import Derived.Test.YtklhakfmegbobaaBPoly
import Derived.Test.YtklhakfmegbobaaBAsk
namespace Go.Proofs.Ytklhakfmegbobaa.B
open Go.RowKit Go.Proofs.Ytklhakfmegbobaa.XW Go.Proofs.Ytklhakfmegbobaa.X Go.Proofs.YtklhakfmegbobaaW.PrintWords Go.Proofs.YtklhakfmegbobaaW.PrintLast Go.Proofs.Ytklhakfmegbobaa.B
set_option linter.unusedVariables false
set_option linter.unusedSimpArgs false
set_option maxRecDepth 20000

/-- Does the line a b cross the half line from p to the right? As the reference asks. -/
def tg (a b p : S_impl_Peg) : Bool :=
 if a.f1 > b.f1 then (decide (b.f1 ≤ p.f1) && (decide (p.f1 < a.f1) && decide (tn b a p > 0))) else (decide (a.f1 ≤ p.f1) && (decide (p.f1 < b.f1) && decide (tn a b p > 0)))
def whr (l : List S_impl_Peg) (p : S_impl_Peg) : Nat → Nat → Bool → Int
 | 0, _, s => if s = true then 1 else -1
 | d + 1, i, s => if onb (pt l i) (pt l (nx l.length i)) p = true then 0 else whr l p d (i + 1) (if tg (pt l i) (pt l (nx l.length i)) p = true then !s else s)
def wh (l : List S_impl_Peg) (p : S_impl_Peg) : Int := whr l p l.length 0 false
theorem whr_bd (l : List S_impl_Peg) (p : S_impl_Peg) : ∀ d i s, -1 ≤ whr l p d i s ∧ whr l p d i s ≤ 1 := by
 intro d
 induction d with
 | zero =>
  intro i s
  unfold whr
  split <;> omega
 | succ d ih =>
  intro i s
  unfold whr
  split
  ·omega
  ·exact ih _ _
theorem wh_bd (l : List S_impl_Peg) (p : S_impl_Peg) : -1 ≤ wh l p ∧ wh l p ≤ 1 := whr_bd l p _ _ _
theorem tn_swap (a b p : S_impl_Peg) : tn b a p = - tn a b p := by
 unfold tn
 grind
/-- A point level with a line that is on its straight line is on it. -/
theorem on_of_level {a b p : S_impl_Peg} (h : tn a b p = 0) (h1 : b.f1 ≤ p.f1) (h2 : p.f1 < a.f1) : onb a b p = true := by
 unfold onb
 simp only [Bool.and_eq_true, decide_eq_true_eq]
 refine ⟨h, ?_, ?_⟩
 ·have e1 : (a.f0 - p.f0) * (a.f1 - b.f1) = (a.f0 - b.f0) * (a.f1 - p.f1) := by
   unfold tn at h
   grind
  have e2 : (b.f0 - p.f0) * (a.f1 - b.f1) = (b.f0 - a.f0) * (p.f1 - b.f1) := by
   unfold tn at h
   grind
  by_cases hc : a.f0 ≤ b.f0
  ·have n1 : (a.f0 - b.f0) * (a.f1 - p.f1) ≤ 0 := Int.mul_nonpos_of_nonpos_of_nonneg (by omega) (by omega)
   have n2 : 0 ≤ (b.f0 - a.f0) * (p.f1 - b.f1) := Int.mul_nonneg (by omega) (by omega)
   have m1 : a.f0 - p.f0 ≤ 0 := by
    by_cases hx : a.f0 - p.f0 ≤ 0
    ·exact hx
    ·have := Int.mul_pos (a := a.f0 - p.f0) (b := a.f1 - b.f1) (by omega) (by omega)
     omega
   have m2 : 0 ≤ b.f0 - p.f0 := by
    by_cases hx : 0 ≤ b.f0 - p.f0
    ·exact hx
    ·have := Int.mul_neg_of_neg_of_pos (a := b.f0 - p.f0) (b := a.f1 - b.f1) (by omega) (by omega)
     omega
   exact Int.mul_nonpos_of_nonpos_of_nonneg m1 m2
  ·have n1 : 0 ≤ (a.f0 - b.f0) * (a.f1 - p.f1) := Int.mul_nonneg (by omega) (by omega)
   have n2 : (b.f0 - a.f0) * (p.f1 - b.f1) ≤ 0 := Int.mul_nonpos_of_nonpos_of_nonneg (by omega) (by omega)
   have m1 : 0 ≤ a.f0 - p.f0 := by
    by_cases hx : 0 ≤ a.f0 - p.f0
    ·exact hx
    ·have := Int.mul_neg_of_neg_of_pos (a := a.f0 - p.f0) (b := a.f1 - b.f1) (by omega) (by omega)
     omega
   have m2 : b.f0 - p.f0 ≤ 0 := by
    by_cases hx : b.f0 - p.f0 ≤ 0
    ·exact hx
    ·have := Int.mul_pos (a := b.f0 - p.f0) (b := a.f1 - b.f1) (by omega) (by omega)
     omega
   exact Int.mul_nonpos_of_nonneg_of_nonpos m1 m2
 ·exact Int.mul_nonpos_of_nonneg_of_nonpos (by omega) (by omega)
theorem tog {a b p : S_impl_Peg} (h : ¬ onb a b p = true) : ((decide (a.f1 > p.f1) != decide (b.f1 > p.f1)) && (decide (tn a b p > 0) == decide (b.f1 > a.f1))) = tg a b p := by
 unfold tg
 by_cases h1 : a.f1 > b.f1
 ·simp only [if_pos h1]
  by_cases h2 : b.f1 ≤ p.f1 ∧ p.f1 < a.f1
  ·have hn : tn a b p ≠ 0 := fun e => h (on_of_level e h2.1 h2.2)
   rw [tn_swap a b p]
   have e1 : a.f1 > p.f1 := h2.2
   have e2 : ¬ b.f1 > p.f1 := by omega
   have e3 : ¬ b.f1 > a.f1 := by omega
   simp only [e1, e2, e3, h2.1, decide_true, decide_false]
   by_cases hp : tn a b p > 0
   ·have : ¬ - tn a b p > 0 := by omega
    simp [hp, this] <;> omega
   ·have : - tn a b p > 0 := by omega
    simp [hp, this] <;> omega
  ·have : (decide (a.f1 > p.f1) != decide (b.f1 > p.f1)) = false := by
    by_cases x1 : a.f1 > p.f1 <;> by_cases x2 : b.f1 > p.f1 <;> simp [x1, x2] <;> omega
   rw [this]
   by_cases x1 : b.f1 ≤ p.f1 <;> by_cases x2 : p.f1 < a.f1 <;> simp [x1, x2] <;> omega
 ·simp only [if_neg h1]
  by_cases h2 : a.f1 ≤ p.f1 ∧ p.f1 < b.f1
  ·have e1 : ¬ a.f1 > p.f1 := by omega
   have e2 : b.f1 > p.f1 := h2.2
   have e3 : b.f1 > a.f1 := by omega
   simp only [e1, e2, e3, h2.1, decide_true, decide_false]
   by_cases hp : tn a b p > 0 <;> simp [hp]
  ·have : (decide (a.f1 > p.f1) != decide (b.f1 > p.f1)) = false := by
    by_cases x1 : a.f1 > p.f1 <;> by_cases x2 : b.f1 > p.f1 <;> simp [x1, x2] <;> omega
   rw [this]
   by_cases x1 : a.f1 ≤ p.f1 <;> by_cases x2 : p.f1 < b.f1 <;> simp [x1, x2] <;> omega
section
variable (l : List S_impl_Peg) (p : S_impl_Peg) (hn : l.length ≤ 1099511627776) (hl : ∀ i, i < l.length → Sm 1000000 (pt l i)) (hp : Sm 1000000 p)
include hn hl hp in
theorem ev_impl_where : Ev (fun k => impl_where.f k l p.f0 p.f1) (wh l p) := by
 unfold impl_where.f wh
 have go : ∀ (d i : Nat) (s : Bool), i + d = l.length → Ev (fun k => impl_where.l0 k l (if s = true then 1 else -1) l l.length i p.f0 p.f1) (whr l p d i s) := by
  intro d
  induction d with
  | zero =>
   intro i s hi
   refine Ev.succ ?_
   simp (disch := omega) only [impl_where.l0, if_neg]
   exact Ev.now _
  | succ d ih =>
   intro i s hi
   refine Ev.succ ?_
   have hil : i < l.length := by omega
   simp (disch := omega) only [impl_where.l0, if_pos, rd_pt, w64, at_next l i hil (by omega), Option.bind_some, impl_on_eq (hl i hil) (hl _ (nx_lt hil)) hp, impl_turn_eq (hl i hil) (hl _ (nx_lt hil)) hp]
   show Ev _ (if onb (pt l i) (pt l (nx l.length i)) p = true then 0 else whr l p d (i + 1) (if tg (pt l i) (pt l (nx l.length i)) p = true then !s else s))
   by_cases ho : onb (pt l i) (pt l (nx l.length i)) p = true
   ·simp only [ho, if_true]
    exact Ev.now _
   ·simp only [if_neg ho]
    rw [← tog ho]
    have ev : ∀ t : Bool, Ev (fun k => impl_where.l0 k l (if t = true then 1 else -1) l l.length ((i + 1 : Nat) : Int) p.f0 p.f1) (whr l p d (i + 1) t) := fun t => ih (i + 1) t (by omega)
    have hs : -(if s = true then (1 : Int) else -1) = if (!s) = true then 1 else -1 := by cases s <;> simp
    rw [hs]
    by_cases c1 : (pt l i).f1 > p.f1 <;> by_cases c2 : (pt l (nx l.length i)).f1 > p.f1 <;> by_cases c3 : tn (pt l i) (pt l (nx l.length i)) p > 0 <;> by_cases c4 : (pt l (nx l.length i)).f1 > (pt l i).f1 <;>
     simp only [c1, c2, c3, c4, decide_true, decide_false, bne_tf, bne_ft, bne_tt, bne_ff, beq_tf, beq_ft, beq_tt, beq_ff, Bool.not_true, Bool.not_false, Bool.and_true, Bool.and_false, Bool.false_and, Bool.true_and, Bool.false_eq_true, if_true, if_false] <;>
     first | exact ev s | exact ev (!s)
 exact go l.length 0 false (by omega)
include hn hl hp in
theorem ev_spec_where : Ev (fun k => spec_pgWhere.f k l p.f0 p.f1) (wh l p) := by
 unfold spec_pgWhere.f wh
 have go : ∀ (d i : Nat) (s : Bool), i + d = l.length → Ev (fun k => spec_pgWhere.l0 k l s l l.length i p.f0 p.f1) (whr l p d i s) := by
  intro d
  induction d with
  | zero =>
   intro i s hi
   refine Ev.succ ?_
   simp (disch := omega) only [spec_pgWhere.l0, if_neg]
   cases s <;> exact Ev.now _
  | succ d ih =>
   intro i s hi
   refine Ev.succ ?_
   have hil : i < l.length := by omega
   have n1 := nx_lt hil
   simp (disch := omega) only [spec_pgWhere.l0, if_pos, if_neg, w64]
   simp (disch := omega) only [tmod1]
   simp (disch := omega) only [if_pos, rd_pt, spec_on_eq (hl i hil) (hl _ n1) hp, Option.bind_some]
   show Ev _ (if onb (pt l i) (pt l (nx l.length i)) p = true then 0 else whr l p d (i + 1) (if tg (pt l i) (pt l (nx l.length i)) p = true then !s else s))
   by_cases ho : onb (pt l i) (pt l (nx l.length i)) p = true
   ·simp only [ho, if_true]
    exact Ev.now _
   ·simp only [if_neg ho]
    have j2 : ∀ t : Bool, Ev (fun k => spec_pgWhere.j2 k l s l l.length i t p.f0 p.f1) (whr l p d (i + 1) (if t = true then !s else s)) := by
     intro t
     refine Ev.succ ?_
     simp (disch := omega) only [spec_pgWhere.j2, w64]
     cases t
     ·exact ih (i + 1) s (by omega)
     ·exact ih (i + 1) (!s) (by omega)
    have j1 : ∀ a b : S_impl_Peg, Sm 1000000 a → Sm 1000000 b → Ev (fun k => spec_pgWhere.j1 k l s l l.length i p.f0 p.f1 a.f0 a.f1 b.f0 b.f1) (whr l p d (i + 1) (if (decide (a.f1 ≤ p.f1) && (decide (p.f1 < b.f1) && decide (tn a b p > 0))) = true then !s else s)) := by
     intro a b ha hb
     refine Ev.succ ?_
     simp only [spec_pgWhere.j1, spec_turn_eq ha hb hp, Option.bind_some]
     by_cases c1 : a.f1 ≤ p.f1
     ·by_cases c2 : p.f1 < b.f1
      ·simp only [if_pos c1, if_pos c2, c1, c2, decide_true, Bool.true_and]
       exact j2 _
      ·simp only [if_pos c1, if_neg c2, c1, c2, decide_true, decide_false, Bool.true_and, Bool.false_and]
       exact j2 _
     ·simp only [if_neg c1, c1, decide_false, Bool.false_and]
      exact j2 _
    by_cases hg : (pt l i).f1 > (pt l (nx l.length i)).f1
    ·have e : tg (pt l i) (pt l (nx l.length i)) p = (decide ((pt l (nx l.length i)).f1 ≤ p.f1) && (decide (p.f1 < (pt l i).f1) && decide (tn (pt l (nx l.length i)) (pt l i) p > 0))) := by
      unfold tg
      rw [if_pos hg]
     rw [e]
     simp only [if_pos hg]
     exact j1 _ _ (hl _ n1) (hl i hil)
    ·have e : tg (pt l i) (pt l (nx l.length i)) p = (decide ((pt l i).f1 ≤ p.f1) && (decide (p.f1 < (pt l (nx l.length i)).f1) && decide (tn (pt l i) (pt l (nx l.length i)) p > 0))) := by
      unfold tg
      rw [if_neg hg]
     rw [e]
     simp only [if_neg hg]
     exact j1 _ _ (hl i hil) (hl _ n1)
 exact go l.length 0 false (by omega)
end
namespace Poly
variable {l : List S_impl_Peg} (h : Poly l)
include h
theorem where_ {p : S_impl_Peg} (hp : Sm 1000000 p) : Ev (fun k => impl_where.f k l p.f0 p.f1) (wh l p) := ev_impl_where l p (by have := h.hi; omega) (fun i hi => h.big i hi) hp
theorem swhere {p : S_impl_Peg} (hp : Sm 1000000 p) : Ev (fun k => spec_pgWhere.f k l p.f0 p.f1) (wh l p) := ev_spec_where l p (by have := h.hi; omega) (fun i hi => h.big i hi) hp
end Poly

end Go.Proofs.Ytklhakfmegbobaa.B
