-- thin
/- Twice the area of a polygon, in the reference and in the program; numbers without their signs. -/
import Derived.Test.YtklhakfmegbobaaX0
import Derived.Test.YtklhakfmegbobaaX7
import Derived.Test.YtklhakfmegbobaaX8
import Derived.Test.YtklhakfmegbobaaX12
import Derived.Test.YtklhakfmegbobaaX13
import Derived.Test.YtklhakfmegbobaaX20
import Derived.Test.YtklhakfmegbobaaBBase
import Derived.Test.YtklhakfmegbobaaBCore
import Derived.Test.YtklhakfmegbobaaBPoly
import Derived.Test.YtklhakfmegbobaaBAsk
namespace Go.Proofs.Ytklhakfmegbobaa.B
open Go.RowKit Go.Proofs.Ytklhakfmegbobaa.XW Go.Proofs.Ytklhakfmegbobaa.X Go.Proofs.YtklhakfmegbobaaW.PrintWords Go.Proofs.YtklhakfmegbobaaW.PrintLast Go.Proofs.Ytklhakfmegbobaa.B
set_option linter.unusedVariables false
set_option linter.unusedSimpArgs false
set_option maxRecDepth 20000

def sumN (f : Nat → Int) : Nat → Int
 | 0 => 0
 | m + 1 => sumN f m + f m
theorem sumN_bd {f : Nat → Int} {B : Int} {m : Nat} (h : ∀ i, i < m → -B ≤ f i ∧ f i ≤ B) : -(B * m) ≤ sumN f m ∧ sumN f m ≤ B * m := by
 induction m with
 | zero => simp [sumN]
 | succ m ih =>
  have h1 := ih (fun i hi => h i (by omega))
  have h2 := h m (by omega)
  have e : B * ((m + 1 : Nat) : Int) = B * m + B := by rw [Int.natCast_add, Int.mul_add]; simp
  rw [e]
  show -(B * m + B) ≤ sumN f m + f m ∧ sumN f m + f m ≤ B * m + B
  omega
/-- What two ways span. -/
def cr (p q : S_impl_Peg) : Int := p.f0 * q.f1 - p.f1 * q.f0
theorem cr_bd {B : Int} {p q : S_impl_Peg} (hp : Sm B p) (hq : Sm B q) : -(2 * (B * B)) ≤ cr p q ∧ cr p q ≤ 2 * (B * B) := by
 unfold Sm at *
 unfold cr
 have h1 := mul_bd (x := p.f0) (y := q.f1) (A := B) (B := B) (by omega) (by omega)
 have h2 := mul_bd (x := p.f1) (y := q.f0) (A := B) (B := B) (by omega) (by omega)
 omega
theorem tn_cr (a b c : S_impl_Peg) : tn a b c = cr a b + cr b c + cr c a := by
 unfold tn cr
 grind
theorem cr_self (a : S_impl_Peg) : cr a a = 0 := by
 unfold cr
 grind
theorem cr_swap (a b : S_impl_Peg) : cr a b = - cr b a := by
 unfold cr
 grind
theorem tn_self (a b : S_impl_Peg) : tn a a b = 0 := by
 unfold tn
 grind
def ar (l : List S_impl_Peg) : Int := sumN (fun i => cr (pt l i) (pt l (nx l.length i))) l.length
theorem ar_bd {l : List S_impl_Peg} {B : Int} (hp : ∀ i, i < l.length → Sm B (pt l i)) : -(2 * (B * B) * l.length) ≤ ar l ∧ ar l ≤ 2 * (B * B) * l.length :=
 sumN_bd fun i hi => cr_bd (hp i hi) (hp _ (nx_lt hi))
theorem impl_cross_eq {p q : S_impl_Peg} (hp : Sm 1000000 p) (hq : Sm 1000000 q) : impl_cross.f p.f0 p.f1 q.f0 q.f1 = some (cr p q) := by
 unfold impl_cross.f cr
 unfold Sm at *
 have h1 := mul_bd (x := p.f0) (y := q.f1) (A := 1000000) (B := 1000000) (by omega) (by omega)
 have h2 := mul_bd (x := p.f1) (y := q.f0) (A := 1000000) (B := 1000000) (by omega) (by omega)
 simp (disch := omega) only [w64]
section
variable (l : List S_impl_Peg) (hn : l.length ≤ 100000) (hp : ∀ i, i < l.length → Sm 1000000 (pt l i))
include hn hp in
theorem ev_impl_twice_l : ∀ (d i : Nat), i + d = l.length → Ev (fun k => impl_twice.l0 k l (sumN (fun i => cr (pt l i) (pt l (nx l.length i))) i) l l.length i) (ar l) := by
 intro d
 induction d with
 | zero =>
  intro i hi
  refine Ev.succ ?_
  obtain rfl : i = l.length := by omega
  simp (disch := omega) only [impl_twice.l0, if_neg]
  exact Ev.now _
 | succ d ih =>
  intro i hi
  refine Ev.succ ?_
  have hil : i < l.length := by omega
  have hb := sumN_bd (f := fun i => cr (pt l i) (pt l (nx l.length i))) (B := 2000000000000) (m := i) (fun j hj => by
   have := cr_bd (hp j (by omega)) (hp _ (nx_lt (n := l.length) (i := j) (by omega)))
   omega)
  have hc := cr_bd (hp i hil) (hp _ (nx_lt hil))
  have hsm : (2000000000000 : Int) * i ≤ 2000000000000 * 100000 := by omega
  simp (disch := omega) only [impl_twice.l0, if_pos, w64, at_next l i hil (by omega), Option.bind_some, rd_pt, impl_cross_eq (hp i hil) (hp _ (nx_lt hil))]
  exact ih (i + 1) (by omega)
include hn hp in
theorem ev_impl_twice : Ev (fun k => impl_twice.f k l) (ar l) := by
 unfold impl_twice.f
 exact ev_impl_twice_l l hn hp l.length 0 (by omega)
theorem ar_tri (h2 : 2 ≤ l.length) : ∀ m, 1 ≤ m → m < l.length → sumN (fun i => tn (pt l 0) (pt l (i + 1)) (pt l (i + 2))) (m - 1) = sumN (fun i => cr (pt l i) (pt l (i + 1))) m + cr (pt l m) (pt l 0) := by
 intro m h1
 induction m with
 | zero => omega
 | succ m ih =>
  intro hm
  by_cases h0 : m = 0
  ·subst h0
   have := cr_swap (pt l 0) (pt l 1)
   show (0 : Int) = 0 + cr (pt l 0) (pt l 1) + cr (pt l 1) (pt l 0)
   omega
  ·have ih := ih (by omega) (by omega)
   have e : m + 1 - 1 = (m - 1) + 1 := by omega
   rw [e]
   show sumN (fun i => tn (pt l 0) (pt l (i + 1)) (pt l (i + 2))) (m - 1) + tn (pt l 0) (pt l (m - 1 + 1)) (pt l (m - 1 + 2)) = _
   rw [ih, tn_cr, show m - 1 + 1 = m by omega, show m - 1 + 2 = m + 1 by omega]
   show _ = sumN (fun i => cr (pt l i) (pt l (i + 1))) m + cr (pt l m) (pt l (m + 1)) + cr (pt l (m + 1)) (pt l 0)
   have := cr_swap (pt l 0) (pt l m)
   omega
theorem sumN_congr {f g : Nat → Int} {m : Nat} (h : ∀ i, i < m → f i = g i) : sumN f m = sumN g m := by
 induction m with
 | zero => rfl
 | succ m ih =>
  show sumN f m + f m = sumN g m + g m
  rw [ih (fun i hi => h i (by omega)), h m (by omega)]
theorem ar_eq (h2 : 2 ≤ l.length) : sumN (fun i => tn (pt l 0) (pt l (i + 1)) (pt l (i + 2))) (l.length - 2) = ar l := by
 have h := ar_tri l h2 (l.length - 1) (by omega) (by omega)
 rw [show l.length - 2 = l.length - 1 - 1 by omega, h]
 unfold ar
 have e : sumN (fun i => cr (pt l i) (pt l (nx l.length i))) l.length = sumN (fun i => cr (pt l i) (pt l (nx l.length i))) (l.length - 1) + cr (pt l (l.length - 1)) (pt l (nx l.length (l.length - 1))) := by
  conv => lhs; rw [show l.length = l.length - 1 + 1 by omega]
  show _ + _ = _
  rw [show l.length - 1 + 1 = l.length by omega]
 rw [e, sumN_congr (f := fun i => cr (pt l i) (pt l (nx l.length i))) (g := fun i => cr (pt l i) (pt l (i + 1))) (fun i hi => by
  show cr _ (pt l (nx l.length i)) = cr _ _
  unfold nx
  rw [if_neg (by omega)])]
 have : nx l.length (l.length - 1) = 0 := by unfold nx; rw [if_pos (by omega)]
 rw [this]
include hn hp in
theorem ev_spec_area_l (h2 : 2 ≤ l.length) : ∀ (d i : Nat), i + d = l.length → 2 ≤ i → Ev (fun k => spec_pgArea.l0 k l (sumN (fun i => tn (pt l 0) (pt l (i + 1)) (pt l (i + 2))) (i - 2)) i) (ar l) := by
 intro d
 induction d with
 | zero =>
  intro i hi h2'
  refine Ev.succ ?_
  obtain rfl : i = l.length := by omega
  simp (disch := omega) only [spec_pgArea.l0, if_neg]
  exact Ev.some (ar_eq l h2)
 | succ d ih =>
  intro i hi h2'
  refine Ev.succ ?_
  have hil : i < l.length := by omega
  have hb := sumN_bd (f := fun i => tn (pt l 0) (pt l (i + 1)) (pt l (i + 2))) (B := 8000000000000) (m := i - 2) (fun j hj => by
   have := tn_bd (hp 0 (by omega)) (hp (j + 1) (by omega)) (hp (j + 2) (by omega))
   omega)
  have hc := tn_bd (hp 0 (by omega)) (hp (i - 1) (by omega)) (hp i hil)
  have e1 : ((i : Int) - 1) = ((i - 1 : Nat) : Int) := by omega
  have e0 : rd_impl_Peg l 0 = pt l 0 := rfl
  simp (disch := omega) only [spec_pgArea.l0, if_pos, w64, e1, rd_pt, e0, Option.bind_some, spec_turn_eq (hp 0 (by omega)) (hp (i - 1) (by omega)) (hp i hil)]
  have := ih (i + 1) (by omega) (by omega)
  rw [show i + 1 - 2 = (i - 2) + 1 by omega] at this
  have e : sumN (fun i => tn (pt l 0) (pt l (i + 1)) (pt l (i + 2))) (i - 2 + 1) = sumN (fun i => tn (pt l 0) (pt l (i + 1)) (pt l (i + 2))) (i - 2) + tn (pt l 0) (pt l (i - 1)) (pt l i) := by
   show _ + tn (pt l 0) (pt l (i - 2 + 1)) (pt l (i - 2 + 2)) = _
   rw [show i - 2 + 1 = i - 1 by omega, show i - 2 + 2 = i by omega]
  rw [e] at this
  exact this
include hn hp in
theorem ev_spec_area (h2 : 2 ≤ l.length) : Ev (fun k => spec_pgArea.f k l) (ar l) := by
 unfold spec_pgArea.f
 exact ev_spec_area_l l hn hp h2 (l.length - 2) 2 (by omega) (by omega)
end
namespace Poly
variable {l : List S_impl_Peg} (h : Poly l)
include h
theorem area : Ev (fun k => impl_twice.f k l) (ar l) := ev_impl_twice l (by have := h.hi; omega) (fun i hi => h.big i hi)
theorem sarea : Ev (fun k => spec_pgArea.f k l) (ar l) := ev_spec_area l (by have := h.hi; omega) (fun i hi => h.big i hi) (by have := h.lo; omega)
theorem area_bd : -32000 ≤ ar l ∧ ar l ≤ 32000 := by
 have := ar_bd (l := l) (B := 40) h.pegs
 have := h.hi
 omega
end Poly

/-! ### A number without its sign -/
def ab (n : Int) : Int := if n < 0 then -n else n
theorem impl_size_eq {n : Int} (h : -9223372036854775808 < n ∧ n ≤ 9223372036854775807) : impl_size.f n = some (ab n) := by
 unfold impl_size.f ab mx
 rw [w64 (by omega)]
 repeat' split
 all_goals first | rfl | omega | (congr 1; omega)
theorem spec_most_eq (a b : Int) : spec_l1Most.f a b = some (mx a b) := by
 unfold spec_l1Most.f mx
 repeat' split
 all_goals first | rfl | omega | (congr 1; omega)
theorem spec_abs_eq {n : Int} (h : -9223372036854775808 < n ∧ n ≤ 9223372036854775807) : spec_l1Abs.f n = some (ab n) := by
 unfold spec_l1Abs.f
 rw [w64 (by omega), spec_most_eq]
 simp only [Option.bind_some]
 unfold ab mx
 repeat' split
 all_goals first | rfl | omega | (congr 1; omega)

end Go.Proofs.Ytklhakfmegbobaa.B
