-- thin
/- What makes the dual of a polygon of numbers whole: the lines between its corners, the first point around, the numbers of the points. -/
import Derived.Test.YtklhakfmegbobaaX0
import Derived.Test.YtklhakfmegbobaaX15
import Derived.Test.YtklhakfmegbobaaX18
import Derived.Test.YtklhakfmegbobaaBBase
import Derived.Test.YtklhakfmegbobaaBCore
import Derived.Test.YtklhakfmegbobaaBPoly
import Derived.Test.YtklhakfmegbobaaBAsk
import Derived.Test.YtklhakfmegbobaaBArea
import Derived.Test.YtklhakfmegbobaaBTold
import Derived.Test.YtklhakfmegbobaaBFirst
import Derived.Test.YtklhakfmegbobaaBSteps
import Derived.Test.YtklhakfmegbobaaBIntS
import Derived.Test.YtklhakfmegbobaaBNumbers
import Derived.Test.YtklhakfmegbobaaBDual
namespace Go.Proofs.Ytklhakfmegbobaa.B
open Go.RowKit Go.Proofs.Ytklhakfmegbobaa.XW Go.Proofs.Ytklhakfmegbobaa.X Go.Proofs.YtklhakfmegbobaaW.PrintWords Go.Proofs.YtklhakfmegbobaaW.PrintLast Go.Proofs.Ytklhakfmegbobaa.B
set_option linter.unusedVariables false
set_option linter.unusedSimpArgs false
set_option maxRecDepth 20000

theorem tmod_pv {n i : Nat} (h : i < n) : Int.tmod ((i : Int) + (n : Int) - 1) (n : Int) = (pv n i : Int) := by
 rw [Int.tmod_eq_emod_of_nonneg (by omega)]
 unfold pv
 split
 ·rename_i e
  subst e
  rw [show ((0 : Nat) : Int) + (n : Int) - 1 = ((n - 1 : Nat) : Int) by omega, Int.emod_eq_of_lt (by omega) (by omega)]
 ·rw [show (i : Int) + (n : Int) - 1 = ((i - 1 : Nat) : Int) + (n : Int) by omega, Int.add_emod_right, Int.emod_eq_of_lt (by omega) (by omega)]
/-- The number of a point: what its neighbours' sum is to it. -/
def nuP (l : List S_impl_Peg) (i : Nat) : Int := if (pt l i).f0 = 0 then Int.tdiv ((pt l (pv l.length i)).f1 + (pt l (nx l.length i)).f1) (pt l i).f1 else Int.tdiv ((pt l (pv l.length i)).f0 + (pt l (nx l.length i)).f0) (pt l i).f0
def nu (l : List S_impl_Peg) : List Int := (List.range l.length).map (nuP l)
theorem nu_length (l : List S_impl_Peg) : (nu l).length = l.length := by simp [nu]
section
variable {l : List S_impl_Peg} (hn : l.length ≤ 1000000) (hp : ∀ i, i < l.length → Sm 100000000 (pt l i)) (hz : ∀ i, i < l.length → (pt l i).f0 ≠ 0 ∨ (pt l i).f1 ≠ 0)
include hn hp hz
theorem ev_spec_nu : Ev (fun k => spec_duNumbers.f k l) (nu l) := by
 unfold spec_duNumbers.f
 have go : ∀ (e i : Nat), i + e = l.length → Ev (fun k => spec_duNumbers.l0 k l l.length ((nu l).take i) l l.length i) (nu l) := by
  intro e
  induction e with
  | zero =>
   intro i hi
   refine Ev.succ ?_
   obtain rfl : i = l.length := by omega
   simp (disch := omega) only [spec_duNumbers.l0, if_neg]
   exact Ev.some (List.take_of_length_le (by rw [nu_length]; omega))
  | succ e ih =>
   intro i hi
   refine Ev.succ ?_
   have hil : i < l.length := by omega
   have n1 := nx_lt hil
   have p1 := pv_lt hil
   have hlen : ((nu l).take i).length = i := rmap_take_length (by omega)
   have s0 := hp _ n1
   have s1 := hp _ p1
   have z := hz i hil
   unfold Sm at s0 s1
   have b0 := tdv_bd (x := (pt l (pv l.length i)).f0 + (pt l (nx l.length i)).f0) (B := 200000000) (by omega) (pt l i).f0
   have b1 := tdv_bd (x := (pt l (pv l.length i)).f1 + (pt l (nx l.length i)).f1) (B := 200000000) (by omega) (pt l i).f1
   have nxt := ih (i + 1) (by omega)
   unfold nu at nxt
   rw [rmap_take hil] at nxt
   simp (disch := omega) only [spec_duNumbers.l0, if_pos, if_neg, w64]
   simp (disch := omega) only [tmod1, tmod_pv]
   simp (disch := omega) only [if_pos, rd_pt]
   unfold nuP at nxt
   by_cases c : (pt l i).f0 = 0
   ·have c1 : (pt l i).f1 ≠ 0 := by
     rcases z with z | z
     ·exact absurd c z
     ·exact z
    rw [if_pos c] at nxt
    simp (disch := omega) only [if_pos c, if_neg c1, if_pos, hlen, w64]
    exact nxt
   ·rw [if_neg c] at nxt
    simp (disch := omega) only [if_neg c, if_pos, hlen, w64]
    exact nxt
 have := go l.length 0 (by omega)
 simpa using this
theorem ev_impl_nu : Ev (fun k => impl_ratios.f k l) (nu l) := by
 unfold impl_ratios.f
 have go : ∀ (e i : Nat), i + e = l.length → Ev (fun k => impl_ratios.l0 k l ((nu l).take i) l l.length i) (nu l) := by
  intro e
  induction e with
  | zero =>
   intro i hi
   refine Ev.succ ?_
   obtain rfl : i = l.length := by omega
   simp (disch := omega) only [impl_ratios.l0, if_neg]
   exact Ev.some (List.take_of_length_le (by rw [nu_length]; omega))
  | succ e ih =>
   intro i hi
   refine Ev.succ ?_
   have hil : i < l.length := by omega
   have n1 := nx_lt hil
   have p1 := pv_lt hil
   have hlen : ((nu l).take i).length = i := rmap_take_length (by omega)
   have s0 := hp _ n1
   have s1 := hp _ p1
   have z := hz i hil
   unfold Sm at s0 s1
   have b0 := tdv_bd (x := (pt l (pv l.length i)).f0 + (pt l (nx l.length i)).f0) (B := 200000000) (by omega) (pt l i).f0
   have b1 := tdv_bd (x := (pt l (pv l.length i)).f1 + (pt l (nx l.length i)).f1) (B := 200000000) (by omega) (pt l i).f1
   have nxt := ih (i + 1) (by omega)
   unfold nu at nxt
   rw [rmap_take hil] at nxt
   simp (disch := omega) only [impl_ratios.l0, if_pos, w64, at_next l i hil (by omega), at_prev l i hil (by omega), Option.bind_some, impl_Peg_plus.f, rd_pt, hlen]
   unfold nuP at nxt
   by_cases c : (pt l i).f0 = 0
   ·have c1 : (pt l i).f1 ≠ 0 := by
     rcases z with z | z
     ·exact absurd c z
     ·exact z
    rw [if_pos c] at nxt
    simp only [if_pos c, if_neg c1]
    exact nxt
   ·rw [if_neg c] at nxt
    simp only [if_neg c]
    exact nxt
 have := go l.length 0 (by omega)
 simpa using this
end
/-! ### The points around a list whose corners go around 0, 0 -/
/-- A point of a line: what holds for it. -/
theorem sg_mem {a b p : S_impl_Peg} (hs : 0 < st a b) (h : p ∈ sg a b (st a b).toNat) : ∃ k w0 w1 : Int, 0 ≤ k ∧ k < st a b ∧ p.f0 = a.f0 + w0 * k ∧ p.f1 = a.f1 + w1 * k ∧ st a b * w0 = b.f0 - a.f0 ∧ st a b * w1 = b.f1 - a.f1 := by
 unfold sg at h
 rw [List.mem_map] at h
 obtain ⟨k, hk, rfl⟩ := h
 rw [List.mem_range] at hk
 obtain ⟨d0, d1⟩ := st_dvd a b
 exact ⟨k, _, _, by omega, by omega, rfl, rfl, dv_eq hs d0, dv_eq hs d1⟩
theorem al_mem {l : List S_impl_Peg} {p : S_impl_Peg} : ∀ i, p ∈ al l i → ∃ j, j < i ∧ p ∈ sg (pt l j) (pt l (nx l.length j)) (st (pt l j) (pt l (nx l.length j))).toNat := by
 intro i
 induction i with
 | zero =>
  intro h
  exact absurd h (by simp [al])
 | succ i ih =>
  intro h
  rw [al_succ, List.mem_append] at h
  rcases h with h | h
  ·obtain ⟨j, hj, hm⟩ := ih h
   exact ⟨j, by omega, hm⟩
  ·exact ⟨i, by omega, h⟩
theorem st_pos {a b : S_impl_Peg} (h : 0 < cr a b) : 0 < st a b := by
 unfold st
 refine gc_pos ?_
 by_cases c : a.f0 - b.f0 = 0
 ·by_cases c1 : a.f1 - b.f1 = 0
  ·have : a = b := peg_ext (by omega) (by omega)
   rw [this, cr_self] at h
   omega
  ·exact Or.inr c1
 ·exact Or.inl c
theorem mulA {x y A B : Int} (hx : 0 ≤ x ∧ x ≤ A) (hy : -B ≤ y ∧ y ≤ B) : -(A * B) ≤ x * y ∧ x * y ≤ A * B := mul_bd (by omega) hy
theorem sg_all {a b p : S_impl_Peg} (ha : Sm 1000 a) (hb : Sm 1000 b) (hc : 0 < cr a b) (h : p ∈ sg a b (st a b).toNat) : Sm 100000000 p ∧ (p.f0 ≠ 0 ∨ p.f1 ≠ 0) ∧ ∀ z : S_impl_Peg, ¬ lss a z = true → ¬ lss b z = true → ¬ lss p z = true := by
 have hs := st_pos hc
 obtain ⟨k, w0, w1, k0, k1, e0, e1, d0, d1⟩ := sg_mem hs h
 have hb4 := st_bd ha hb
 generalize st a b = n at *
 refine ⟨?_, ?_, ?_⟩
 ·unfold Sm at *
  have hw : ∀ w d : Int, n * w = d → -2000 ≤ d → d ≤ 2000 → -2000 ≤ w ∧ w ≤ 2000 := by
   intro w d e l1 l2
   constructor
   ·refine Int.not_lt.1 fun c => ?_
    have := Int.mul_le_mul_of_nonneg_left (show w ≤ -2001 by omega) (show 0 ≤ n by omega)
    omega
   ·refine Int.not_lt.1 fun c => ?_
    have := Int.mul_le_mul_of_nonneg_left (show 2001 ≤ w by omega) (show 0 ≤ n by omega)
    omega
  have b0 := hw w0 _ d0 (by omega) (by omega)
  have b1 := hw w1 _ d1 (by omega) (by omega)
  have m0 := mul_bd (x := w0) (y := k) (A := 2000) (B := 4000) (by omega) (by omega)
  have m1 := mul_bd (x := w1) (y := k) (A := 2000) (B := 4000) (by omega) (by omega)
  omega
 ·refine Classical.not_not.1 fun c => ?_
  have c0 : p.f0 = 0 := Classical.not_not.1 fun x => c (Or.inl x)
  have c1 : p.f1 = 0 := Classical.not_not.1 fun x => c (Or.inr x)
  have key : (n - k) * cr a b = n * (p.f0 * b.f1 - p.f1 * b.f0) := by
   have x0 : b.f0 = a.f0 + n * w0 := by omega
   have x1 : b.f1 = a.f1 + n * w1 := by omega
   unfold cr
   rw [e0, e1, x0, x1]
   grind
  rw [c0, c1, Int.zero_mul, Int.zero_mul, Int.sub_self, Int.mul_zero] at key
  have := Int.mul_pos (show 0 < n - k by omega) hc
  omega
 ·intro z hza hzb
  rw [lss_iff] at hza hzb ⊢
  have up : ∀ w, 0 ≤ w → 0 ≤ w * k := fun w hw => Int.mul_nonneg hw k0
  have up' : ∀ w, 0 < w → 0 < k → 0 < w * k := fun w hw hk => Int.mul_pos hw hk
  have dn : ∀ w, w ≤ 0 → n * w ≤ w * k := fun w hw => by
   have := Int.mul_nonneg (show 0 ≤ n - k by omega) (show 0 ≤ -w by omega)
   have e : (n - k) * -w = w * k - n * w := by grind
   omega
  have dn' : ∀ w, w < 0 → n * w < w * k := fun w hw => by
   have := Int.mul_pos (show 0 < n - k by omega) (show 0 < -w by omega)
   have e : (n - k) * -w = w * k - n * w := by grind
   omega
  by_cases hk : k = 0
  ·subst hk
   rw [Int.mul_zero] at e0 e1
   omega
  ·rcases Int.lt_trichotomy w0 0 with hw | hw | hw
   ·have := dn' w0 hw
    omega
   ·subst hw
    rw [Int.zero_mul] at e0
    rw [Int.mul_zero] at d0
    by_cases hv : 0 ≤ w1
    ·have := up w1 hv
     omega
    ·have := dn w1 (by omega)
     omega
   ·have := up' w0 hw (by omega)
    omega
/-- All that both sides need of the points around. -/
theorem al_all {l : List S_impl_Peg} (hp : ∀ i, i < l.length → Sm 1000 (pt l i)) (ha : Adj Pos l) (h0 : 0 < l.length) (hf : ∀ j, j < l.length → ¬ lss (pt l j) (pt l 0) = true) :
  (∀ i, i < (al l l.length).length → Sm 100000000 (pt (al l l.length) i)) ∧ (∀ i, i < (al l l.length).length → (pt (al l l.length) i).f0 ≠ 0 ∨ (pt (al l l.length) i).f1 ≠ 0) ∧ fi (al l l.length) = 0 := by
 have all : ∀ i, i < (al l l.length).length → Sm 100000000 (pt (al l l.length) i) ∧ ((pt (al l l.length) i).f0 ≠ 0 ∨ (pt (al l l.length) i).f1 ≠ 0) ∧ ¬ lss (pt (al l l.length) i) (pt l 0) = true := by
  intro i hi
  obtain ⟨j, hj, hm⟩ := al_mem _ (pt_mem hi)
  obtain ⟨g1, g2, g3⟩ := sg_all (hp j hj) (hp _ (nx_lt hj)) (ha j hj) hm
  exact ⟨g1, g2, g3 _ (hf j hj) (hf _ (nx_lt hj))⟩
 have z : pt (al l l.length) 0 = pt l 0 := by
  have hs := st_pos (ha 0 h0)
  have go : ∀ i, 1 ≤ i → 0 < (al l i).length ∧ pt (al l i) 0 = pt l 0 := by
   intro i
   induction i with
   | zero => omega
   | succ i ih =>
    intro _
    by_cases c : i = 0
    ·subst c
     rw [al_succ]
     show 0 < ([] ++ sg _ _ _).length ∧ pt ([] ++ sg _ _ _) 0 = _
     rw [List.nil_append, sg_length]
     refine ⟨by omega, ?_⟩
     unfold sg
     rw [rmap_pt (by omega)]
     exact peg_ext (by simp) (by simp)
    ·obtain ⟨a1, a2⟩ := ih (by omega)
     rw [al_succ, pt_app_lt a1, List.length_append]
     exact ⟨by omega, a2⟩
  exact (go l.length h0).2
 refine ⟨fun i hi => (all i hi).1, fun i hi => (all i hi).2.1, fi_zero fun j hj => ?_⟩
 rw [z]
 exact (all j hj).2.2

end Go.Proofs.Ytklhakfmegbobaa.B
