-- thin
/- A convex polygon with one point of whole numbers inside, which is the peg of noughts, has that peg on the left of each of its sides, at the distance of one. -/
import Derived.Test.YtklhakfmegbobaaX0
import Derived.Test.YtklhakfmegbobaaBBase
import Derived.Test.YtklhakfmegbobaaBCore
import Derived.Test.YtklhakfmegbobaaBPoly
import Derived.Test.YtklhakfmegbobaaBAsk
import Derived.Test.YtklhakfmegbobaaBArea
import Derived.Test.YtklhakfmegbobaaBGeo
import Derived.Test.YtklhakfmegbobaaBSimple
import Derived.Test.YtklhakfmegbobaaBGeoC
import Derived.Test.YtklhakfmegbobaaBWhere
import Derived.Test.YtklhakfmegbobaaBConvex
import Derived.Test.YtklhakfmegbobaaBSteps
import Derived.Test.YtklhakfmegbobaaBRound
import Derived.Test.YtklhakfmegbobaaBInner
import Derived.Test.YtklhakfmegbobaaBTold
import Derived.Test.YtklhakfmegbobaaBOrder
import Derived.Test.YtklhakfmegbobaaBFirst
import Derived.Test.YtklhakfmegbobaaBDual
namespace Go.Proofs.Ytklhakfmegbobaa.B
open Go.RowKit Go.Proofs.Ytklhakfmegbobaa.XW Go.Proofs.Ytklhakfmegbobaa.X Go.Proofs.YtklhakfmegbobaaW.PrintWords Go.Proofs.YtklhakfmegbobaaW.PrintLast Go.Proofs.Ytklhakfmegbobaa.B
set_option linter.unusedVariables false
set_option linter.unusedSimpArgs false
set_option maxRecDepth 20000

theorem eds_in {a b : Geo.Pt} : ∀ {M : List Geo.Pt} {i : Nat}, M[i]? = some a → M[i + 1]? = some b → (a, b) ∈ Geo.eds M
 | [], i, h, _ => by simp at h
 | [_], i, _, h => by simp at h
 | c :: d :: l, 0, h1, h2 => by
  simp only [List.getElem?_cons_zero, Option.some.injEq, Nat.zero_add, List.getElem?_cons_succ] at h1 h2
  subst h1 h2
  simp [Geo.eds]
 | c :: d :: l, i + 1, h1, h2 => by
  simp only [List.getElem?_cons_succ] at h1 h2
  exact List.mem_cons_of_mem _ (eds_in (M := d :: l) (i := i) h1 (by simpa using h2))
theorem cyc_in {l : List S_impl_Peg} {i : Nat} (h : i < l.length) : (gp (pt l i), gp (pt l (nx l.length i))) ∈ Geo.cyc (l.map gp) := by
 rw [cyc_ring (by omega)]
 obtain ⟨e1, e2⟩ := ring_nx (by omega) h
 exact eds_in e1 e2
theorem pt_inj {l : List S_impl_Peg} (ok : Poly l) {i j : Nat} (hi : i < l.length) (hj : j < l.length) (h : pt l i = pt l j) : i = j := by
 rcases Nat.lt_trichotomy i j with c | c | c
 ·exact absurd h (ok.diff j hj i c)
 ·exact c
 ·exact absurd h.symm (ok.diff i hi j c)
theorem sgn_cases {n : Int} (h : n ≠ 0) : (sgn n = 1 ∧ 0 < n) ∨ (sgn n = -1 ∧ n < 0) := by
 unfold sgn
 split
 ·omega
 ·split <;> omega
theorem conv_iff {l : List S_impl_Peg} : conv l = true ↔ ∀ i, i < l.length → sgn (tn (pt l (pv l.length i)) (pt l i) (pt l (nx l.length i))) = sgn (ar l) := by
 unfold conv
 simp
section
variable {l : List S_impl_Peg} (ok : Poly l) (hc : conv l = true)
include ok hc
theorem turn_pos {i : Nat} (hi : i < l.length) : 0 < sgn (ar l) * tn (pt l i) (pt l (nx l.length i)) (pt l (nx l.length (nx l.length i))) := by
 have h := conv_iff.1 hc _ (nx_lt hi)
 rw [pv_nx hi] at h
 have hne := Poly.area_ne ok
 rcases sgn_cases hne with ⟨e, _⟩ | ⟨e, _⟩
 ·rw [e] at h ⊢
  unfold sgn at h
  split at h
  ·omega
  ·split at h <;> omega
 ·rw [e] at h ⊢
  unfold sgn at h
  split at h
  ·omega
  ·split at h <;> omega
/-- All corners are on one side of each side. -/
theorem all_left {i j : Nat} (hi : i < l.length) (hj : j < l.length) (h1 : pt l j ≠ pt l i) (h2 : pt l j ≠ pt l (nx l.length i)) : 0 < sgn (ar l) * tn (pt l i) (pt l (nx l.length i)) (pt l j) := by
 have h3 := ok.lo
 have hne := Poly.area_ne ok
 obtain ⟨s, hs⟩ : ∃ s, s = sgn (ar l) := ⟨_, rfl⟩
 have s0 : s = 1 ∨ s = -1 := by
  rcases sgn_cases hne with ⟨e, _⟩ | ⟨e, _⟩ <;> omega
 have ht := fun {i : Nat} (hi : i < l.length) => turn_pos ok hc hi
 rw [← hs] at ht ⊢
 have D : s * 1 - 0 * 0 ≠ 0 := by omega
 have S := (simple ok).map (a := s) (b := 0) (c := 0) (d := 1) D
 have dm : ∀ x y z, Geo.det (Geo.mp s 0 0 1 x) (Geo.mp s 0 0 1 y) (Geo.mp s 0 0 1 z) = s * Geo.det x y z := by
  intro x y z
  rw [Geo.det_mp]
  grind
 have tl : Geo.Left ((l.map gp).map (Geo.mp s 0 0 1)) := by
  intro x y z i1 i2
  obtain ⟨x', y', j1, rfl, rfl⟩ := Geo.mem_cyc_map i1
  obtain ⟨y'', z', j2, k2, rfl⟩ := Geo.mem_cyc_map i2
  obtain rfl := Geo.mp_inj D k2
  obtain ⟨i, hi, rfl, e1⟩ := cyc_ix (by omega) j1
  obtain ⟨j, hj, e2, rfl⟩ := cyc_ix (by omega) j2
  have ej := pt_inj ok (nx_lt hi) hj (gp_inj (e1.symm.trans e2))
  rw [dm, e1, ← ej, ← tn_det]
  exact ht hi
 have mem : ∀ {j : Nat}, j < l.length → Geo.mp s 0 0 1 (gp (pt l j)) ∈ (l.map gp).map (Geo.mp s 0 0 1) := fun hj => List.mem_map.2 ⟨_, List.mem_map.2 ⟨_, pt_mem hj, rfl⟩, rfl⟩
 have ed : (Geo.mp s 0 0 1 (gp (pt l i)), Geo.mp s 0 0 1 (gp (pt l (nx l.length i)))) ∈ Geo.cyc ((l.map gp).map (Geo.mp s 0 0 1)) := by
  rw [Geo.cyc_map]
  exact List.mem_map.2 ⟨_, cyc_in hi, rfl⟩
 have := Geo.convex S tl (by simpa using h3) ed (mem hj) (fun e => h1 (gp_inj (Geo.mp_inj D e))) (fun e => h2 (gp_inj (Geo.mp_inj D e)))
 rw [dm, ← tn_det] at this
 exact this
end
/-! ### Where the peg of noughts lies -/
def oo : S_impl_Peg := ⟨0, 0⟩
theorem tn_oo (a b : S_impl_Peg) : tn a b oo = cr a b := by
 unfold tn cr oo
 grind
theorem whr_on {l : List S_impl_Peg} {p : S_impl_Peg} : ∀ (d i : Nat) (s : Bool), 0 < whr l p d i s → ∀ j, i ≤ j → j < i + d → ¬ onb (pt l j) (pt l (nx l.length j)) p = true := by
 intro d
 induction d with
 | zero => intro i s _ j h1 h2; omega
 | succ d ih =>
  intro i s h j h1 h2
  unfold whr at h
  split at h
  ·omega
  ·rename_i hn
   by_cases e : j = i
   ·subst e
    exact hn
   ·exact ih (i + 1) _ h j (by omega) (by omega)
theorem whr_no {l : List S_impl_Peg} {p : S_impl_Peg} : ∀ (d i : Nat) (s : Bool), (∀ j, i ≤ j → j < i + d → tg (pt l j) (pt l (nx l.length j)) p = false) → 0 < whr l p d i s → s = true := by
 intro d
 induction d with
 | zero =>
  intro i s _ h
  unfold whr at h
  split at h
  ·assumption
  ·omega
 | succ d ih =>
  intro i s ht h
  unfold whr at h
  split at h
  ·omega
  ·rw [ht i (by omega) (by omega)] at h
   exact ih (i + 1) s (fun j h1 h2 => ht j (by omega) (by omega)) (by simpa using h)
def up (l : List S_impl_Peg) (i : Nat) : Bool := decide (0 < (pt l (if i = l.length then 0 else i)).f1)
theorem whr_all {l : List S_impl_Peg} {p : S_impl_Peg} : ∀ (d i : Nat) (s : Bool), i + d = l.length → (∀ j, i ≤ j → j < i + d → tg (pt l j) (pt l (nx l.length j)) p = (up l j != up l (j + 1))) → 0 < whr l p d i s → (s != (up l i != up l l.length)) = true := by
 intro d
 induction d with
 | zero =>
  intro i s hi _ h
  unfold whr at h
  obtain rfl : i = l.length := by omega
  split at h
  ·rename_i e
   rw [e]
   simp
  ·omega
 | succ d ih =>
  intro i s hi ht h
  unfold whr at h
  split at h
  ·omega
  ·have := ih (i + 1) _ (by omega) (fun j h1 h2 => ht j (by omega) (by omega)) h
   rw [ht i (by omega) (by omega)] at this
   revert this
   cases up l i <;> cases up l (i + 1) <;> cases up l l.length <;> cases s <;> simp
/-- A line across the level of the peg of noughts. -/
theorem tg_oo {a b : S_impl_Peg} : tg a b oo = ((decide (0 < a.f1) != decide (0 < b.f1)) && decide (if a.f1 > b.f1 then cr b a > 0 else cr a b > 0)) := by
 unfold tg
 rw [tn_oo, tn_oo]
 show (if a.f1 > b.f1 then (decide (b.f1 ≤ 0) && (decide (0 < a.f1) && decide (cr b a > 0))) else (decide (a.f1 ≤ 0) && (decide (0 < b.f1) && decide (cr a b > 0)))) = _
 by_cases h : a.f1 > b.f1
 ·simp only [if_pos h]
  by_cases h1 : 0 < a.f1 <;> by_cases h2 : 0 < b.f1 <;> by_cases h3 : b.f1 ≤ 0 <;> simp [h1, h2, h3] <;> omega
 ·simp only [if_neg h]
  by_cases h1 : 0 < a.f1 <;> by_cases h2 : 0 < b.f1 <;> by_cases h3 : a.f1 ≤ 0 <;> simp [h1, h2, h3] <;> omega
section
variable {l : List S_impl_Peg} (ok : Poly l) (hc : conv l = true) (hw : 0 < wh l oo)
include ok hc hw
theorem inward {i : Nat} (hi : i < l.length) : 0 < sgn (ar l) * cr (pt l i) (pt l (nx l.length i)) := by
 refine Decidable.byContradiction fun hno => ?_
 have h3 := ok.lo
 have hon := whr_on (l := l) (p := oo) l.length 0 false hw
 have ge : ∀ j, j < l.length → 0 ≤ sgn (ar l) * tn (pt l i) (pt l (nx l.length i)) (pt l j) := by
  intro j hj
  by_cases h1 : pt l j = pt l i
  ·rw [h1]
   have : tn (pt l i) (pt l (nx l.length i)) (pt l i) = 0 := by unfold tn; grind
   rw [this]
   simp
  ·by_cases h2 : pt l j = pt l (nx l.length i)
   ·rw [h2]
    have : tn (pt l i) (pt l (nx l.length i)) (pt l (nx l.length i)) = 0 := by unfold tn; grind
    rw [this]
    simp
   ·exact Int.le_of_lt (all_left ok hc hi hj h1 h2)
 have gt : ∀ j, j < l.length → sgn (ar l) * tn (pt l i) (pt l (nx l.length i)) (pt l j) = 0 → pt l j = pt l i ∨ pt l j = pt l (nx l.length i) := by
  intro j hj h
  by_cases h1 : pt l j = pt l i
  ·exact Or.inl h1
  ·by_cases h2 : pt l j = pt l (nx l.length i)
   ·exact Or.inr h2
   ·have := all_left ok hc hi hj h1 h2
    omega
 have hab : pt l i ≠ pt l (nx l.length i) := fun e => by
  have := pt_inj ok hi (nx_lt hi) e
  unfold nx at this
  split at this <;> omega
 have honi := hon i (by omega) (by omega)
 have hs0 : sgn (ar l) ≠ 0 := by
  rcases sgn_cases (Poly.area_ne ok) with ⟨e, _⟩ | ⟨e, _⟩ <;> omega
 generalize hA : pt l i = a at *
 generalize hB : pt l (nx l.length i) = b at *
 generalize sgn (ar l) = s at *
 -- a line from above the level to below it
 have side : ∀ c d : S_impl_Peg, (∃ j, j < l.length ∧ pt l j = c) → (∃ j, j < l.length ∧ pt l j = d) → 0 < c.f1 → d.f1 ≤ 0 → ¬ onb c d oo = true → (0 < s * (a.f1 - b.f1) ∨ (s * (a.f1 - b.f1) = 0 ∧ 0 < a.f0) → 0 < cr d c) ∧ (¬ (0 < s * (a.f1 - b.f1) ∨ (s * (a.f1 - b.f1) = 0 ∧ 0 < a.f0)) → ¬ 0 < cr d c) := by
  rintro c d ⟨jc, hjc, rfl⟩ ⟨jd, hjd, rfl⟩ hcy hdy hcd
  have g1 := ge jc hjc
  have g2 := ge jd hjd
  have e := gt jd hjd
  generalize pt l jc = c at *
  generalize pt l jd = d at *
  have cr0 : cr d c ≠ 0 := by
   intro h0
   refine hcd (on_of_level (p := oo) ?_ hdy hcy)
   rw [tn_oo, cr_swap]
   omega
  have key : c.f1 * (s * tn a b d) + (-d.f1) * (s * tn a b c) = (c.f1 - d.f1) * (s * cr a b) + cr d c * (s * (a.f1 - b.f1)) := by
   unfold tn cr
   grind
  have n1 := Geo.mnz (Int.le_of_lt hcy) g2
  have n2 := Geo.mnz (show 0 ≤ -d.f1 by omega) g1
  have n3 := Geo.mnz (show 0 ≤ c.f1 - d.f1 by omega) (show 0 ≤ -(s * cr a b) by omega)
  rw [Int.mul_neg] at n3
  have n4 : 0 ≤ cr d c * (s * (a.f1 - b.f1)) := by omega
  rcases Int.lt_trichotomy (s * (a.f1 - b.f1)) 0 with k | k | k
  ·refine ⟨fun h => by omega, fun _ h => ?_⟩
   have := Int.mul_pos h (show 0 < -(s * (a.f1 - b.f1)) by omega)
   rw [Int.mul_neg] at this
   omega
  ·rw [k, Int.mul_zero, Int.add_zero] at key
   have z1 : (c.f1 - d.f1) * (s * cr a b) = 0 := by omega
   have z2 := Geo.mz (show 0 < c.f1 - d.f1 by omega) z1
   have z3 : c.f1 * (s * tn a b d) = 0 := by omega
   have z4 := Geo.mz hcy z3
   have s0 : s ≠ 0 := hs0
   have hy : a.f1 = b.f1 := by
    rcases Int.mul_eq_zero.1 k with k | k
    ·exact absurd k s0
    ·omega
   have hz : cr a b = 0 := by
    rcases Int.mul_eq_zero.1 z2 with k | k
    ·exact absurd k s0
    ·exact k
   have hx : a.f0 ≠ b.f0 := fun e => hab (peg_ext e hy)
   have ay : a.f1 = 0 := by
    have : a.f1 * (a.f0 - b.f0) = 0 := by
     unfold cr at hz
     grind
    rcases Int.mul_eq_zero.1 this with k | k
    ·exact k
    ·omega
   have same : 0 < a.f0 * b.f0 := by
    refine Int.not_le.1 fun h => honi ?_
    unfold onb
    simp only [Bool.and_eq_true, decide_eq_true_eq]
    rw [tn_oo]
    refine ⟨hz, ?_, ?_⟩
    ·show (a.f0 - 0) * (b.f0 - 0) ≤ 0
     simpa using h
    ·show (a.f1 - 0) * (b.f1 - 0) ≤ 0
     rw [ay]
     simp
   have hd : d.f1 = 0 ∧ (0 < a.f0 ↔ 0 < d.f0) := by
    rcases e z4 with e | e
    ·rw [e]
     exact ⟨ay, Iff.rfl⟩
    ·rw [e]
     refine ⟨by omega, fun h => Geo.mpos h same, fun h => Geo.mpos h (by rw [Int.mul_comm]; exact same)⟩
   have ecr : cr d c = c.f1 * d.f0 := by
    unfold cr
    rw [hd.1]
    grind
   rw [ecr]
   refine ⟨?_, ?_⟩
   ·rintro (h | h)
    ·omega
    ·exact Int.mul_pos hcy (hd.2.1 h.2)
   ·intro h h'
    exact h (Or.inr ⟨k, hd.2.2 (Geo.mpos hcy h')⟩)
  ·refine ⟨fun _ => ?_, fun h => absurd (Or.inl k) h⟩
   rcases Int.lt_or_gt_of_ne cr0 with q | q
   ·have := Int.mul_pos (show 0 < -cr d c by omega) k
    rw [Int.neg_mul] at this
    omega
   ·exact q
 have upj : ∀ j, j < l.length → up l j = decide (0 < (pt l j).f1) ∧ up l (j + 1) = decide (0 < (pt l (nx l.length j)).f1) := by
  intro j hj
  unfold up nx
  rw [if_neg (by omega)]
  exact ⟨rfl, rfl⟩
 have cross : ∀ j, j < l.length → (decide (0 < (pt l j).f1) != decide (0 < (pt l (nx l.length j)).f1)) = true →
   (0 < s * (a.f1 - b.f1) ∨ (s * (a.f1 - b.f1) = 0 ∧ 0 < a.f0) → (if (pt l j).f1 > (pt l (nx l.length j)).f1 then cr (pt l (nx l.length j)) (pt l j) > 0 else cr (pt l j) (pt l (nx l.length j)) > 0)) ∧
   (¬ (0 < s * (a.f1 - b.f1) ∨ (s * (a.f1 - b.f1) = 0 ∧ 0 < a.f0)) → ¬ (if (pt l j).f1 > (pt l (nx l.length j)).f1 then cr (pt l (nx l.length j)) (pt l j) > 0 else cr (pt l j) (pt l (nx l.length j)) > 0)) := by
  intro j hj h
  have hj0 := hon j (by omega) (by omega)
  by_cases h1 : 0 < (pt l j).f1
  ·have h2 : ¬ 0 < (pt l (nx l.length j)).f1 := by
    intro h2
    simp [h1, h2] at h
   rw [if_pos (by omega)]
   exact side _ _ ⟨j, hj, rfl⟩ ⟨_, nx_lt hj, rfl⟩ h1 (by omega) hj0
  ·have h2 : 0 < (pt l (nx l.length j)).f1 := by
    refine Decidable.byContradiction fun h2 => ?_
    simp [h1, h2] at h
   rw [if_neg (by omega)]
   refine side _ _ ⟨_, nx_lt hj, rfl⟩ ⟨j, hj, rfl⟩ h2 (by omega) ?_
   intro e
   refine hj0 ?_
   unfold onb at e ⊢
   simp only [Bool.and_eq_true, decide_eq_true_eq] at e ⊢
   rw [tn_oo] at e ⊢
   rw [cr_swap]
   exact ⟨by omega, by rw [Int.mul_comm]; exact e.2.1, by rw [Int.mul_comm]; exact e.2.2⟩
 by_cases ch : 0 < s * (a.f1 - b.f1) ∨ (s * (a.f1 - b.f1) = 0 ∧ 0 < a.f0)
 ·have := whr_all (l := l) (p := oo) l.length 0 false (by omega) (fun j _ hj => by
   have hj : j < l.length := by omega
   obtain ⟨u1, u2⟩ := upj j hj
   rw [tg_oo, u1, u2]
   cases hh : (decide (0 < (pt l j).f1) != decide (0 < (pt l (nx l.length j)).f1))
   ·simp
   ·rw [Bool.true_and, decide_eq_true_eq]
    exact (cross j hj hh).1 ch) hw
  revert this
  have : up l 0 = up l l.length := by
   unfold up
   rw [if_pos rfl]
   split <;> rfl
  rw [this]
  simp
 ·have := whr_no (l := l) (p := oo) l.length 0 false (fun j _ hj => by
   have hj : j < l.length := by omega
   rw [tg_oo]
   cases hh : (decide (0 < (pt l j).f1) != decide (0 < (pt l (nx l.length j)).f1))
   ·rfl
   ·rw [Bool.true_and, decide_eq_false_iff_not]
    exact (cross j hj hh).2 ch) hw
  exact absurd this (by decide)
end
/-! ### The sums -/
theorem sumN_lin (f g : Nat → Int) (s : Int) : ∀ m, s * sumN f m - sumN g m = sumN (fun i => s * f i - g i) m
 | 0 => by simp [sumN]
 | m + 1 => by
  have := sumN_lin f g s m
  simp only [sumN]
  grind
theorem sumN_zero {f : Nat → Int} : ∀ m, (∀ i, i < m → 0 ≤ f i) → sumN f m ≤ 0 → ∀ i, i < m → f i = 0
 | 0, _, _, i, hi => by omega
 | m + 1, h, hs, i, hi => by
  have hm := h m (by omega)
  have nn : 0 ≤ sumN f m := by
   clear hs
   have : ∀ k, k ≤ m → 0 ≤ sumN f k := by
    intro k
    induction k with
    | zero => intro _; exact Int.le_refl _
    | succ k ih =>
     intro hk
     have := ih (by omega)
     have := h k (by omega)
     show 0 ≤ sumN f k + f k
     omega
   exact this m (Nat.le_refl _)
  have hs : sumN f m + f m ≤ 0 := hs
  by_cases e : i = m
  ·subst e
   omega
  ·exact sumN_zero m (fun i hi => h i (by omega)) (by omega) i (by omega)
theorem sumN_ring {n : Nat} (F : Nat → Int) : sumN (fun i => F (nx n i)) n = sumN F n := by
 cases n with
 | zero => rfl
 | succ m =>
  rw [sumN_front F m]
  show sumN (fun i => F (nx (m + 1) i)) m + F (nx (m + 1) m) = _
  rw [show nx (m + 1) m = 0 by unfold nx; rw [if_pos rfl], sumN_congr (f := fun i => F (nx (m + 1) i)) (g := fun i => F (i + 1)) (fun i hi => by
   show F (nx (m + 1) i) = F (i + 1)
   unfold nx
   rw [if_neg (by omega)])]
  omega
theorem even_two {x y : Int} (h : 2 ∣ x - y) : x % 2 = y % 2 := by omega
/-- The steps of a line are odd where one of its two ways is. -/
theorem st_mod (a b : S_impl_Peg) : 2 ∣ st a b + (b.f0 - a.f0) + (b.f1 - a.f1) + (b.f0 - a.f0) * (b.f1 - a.f1) := by
 obtain ⟨⟨u, hu⟩, ⟨v, hv⟩⟩ := st_dvd a b
 by_cases h : 2 ∣ st a b
 ·obtain ⟨c, hc⟩ := h
  rw [hu, hv, hc]
  exact ⟨c + c * u + c * v + c * u * (2 * c * v), by grind⟩
 ·have h2 : ¬ (2 ∣ b.f0 - a.f0 ∧ 2 ∣ b.f1 - a.f1) := by
   rintro ⟨h3, h4⟩
   refine h ?_
   unfold st gc
   exact Int.dvd_coe_gcd (by rw [show a.f0 - b.f0 = -(b.f0 - a.f0) by omega]; exact Int.dvd_neg.2 h3) (by rw [show a.f1 - b.f1 = -(b.f1 - a.f1) by omega]; exact Int.dvd_neg.2 h4)
  have e : (st a b + (b.f0 - a.f0) + (b.f1 - a.f1) + (b.f0 - a.f0) * (b.f1 - a.f1)) = st a b - 1 + (1 + (b.f0 - a.f0)) * (1 + (b.f1 - a.f1)) := by grind
  rw [e]
  have h3 : 2 ∣ st a b - 1 := by omega
  have h4 : 2 ∣ (1 + (b.f0 - a.f0)) * (1 + (b.f1 - a.f1)) := by
   by_cases h5 : 2 ∣ b.f0 - a.f0
   ·have : 2 ∣ 1 + (b.f1 - a.f1) := by omega
    exact Int.dvd_mul_of_dvd_right this
   ·have : 2 ∣ 1 + (b.f0 - a.f0) := by omega
    exact Int.dvd_mul_of_dvd_left this
  exact Int.dvd_add h3 h4
theorem cr_st_mod (a b : S_impl_Peg) : 2 ∣ (cr a b + st a b) - ((b.f0 + b.f1 + b.f0 * b.f1) - (a.f0 + a.f1 + a.f0 * a.f1)) := by
 obtain ⟨c, hc⟩ := st_mod a b
 refine ⟨c - (b.f0 - a.f0) - (b.f1 - a.f1) - (b.f0 - a.f0) * (b.f1 - a.f1) - a.f1 * (b.f0 - a.f0), ?_⟩
 unfold cr
 grind
theorem sumN_even {f : Nat → Int} : ∀ m, (∀ i, i < m → 2 ∣ f i) → 2 ∣ sumN f m
 | 0, _ => by simp [sumN]
 | m + 1, h => by
  show 2 ∣ sumN f m + f m
  exact Int.dvd_add (sumN_even m fun i hi => h i (by omega)) (h m (by omega))
theorem ar_rn_even (l : List S_impl_Peg) : 2 ∣ ar l + rn l := by
 have h := sumN_even (f := fun i => (cr (pt l i) (pt l (nx l.length i)) + st (pt l i) (pt l (nx l.length i))) - (((pt l (nx l.length i)).f0 + (pt l (nx l.length i)).f1 + (pt l (nx l.length i)).f0 * (pt l (nx l.length i)).f1) - ((pt l i).f0 + (pt l i).f1 + (pt l i).f0 * (pt l i).f1))) l.length (fun i _ => cr_st_mod _ _)
 have e : sumN (fun i => (cr (pt l i) (pt l (nx l.length i)) + st (pt l i) (pt l (nx l.length i))) - (((pt l (nx l.length i)).f0 + (pt l (nx l.length i)).f1 + (pt l (nx l.length i)).f0 * (pt l (nx l.length i)).f1) - ((pt l i).f0 + (pt l i).f1 + (pt l i).f0 * (pt l i).f1))) l.length = ar l + rn l := by
  have r := sumN_ring (n := l.length) (fun i => (pt l i).f0 + (pt l i).f1 + (pt l i).f0 * (pt l i).f1)
  have s1 := sumN_lin (fun i => cr (pt l i) (pt l (nx l.length i))) (fun i => - st (pt l i) (pt l (nx l.length i))) 1 l.length
  have s2 := sumN_lin (fun i => (pt l (nx l.length i)).f0 + (pt l (nx l.length i)).f1 + (pt l (nx l.length i)).f0 * (pt l (nx l.length i)).f1) (fun i => (pt l i).f0 + (pt l i).f1 + (pt l i).f0 * (pt l i).f1) 1 l.length
  have s3 := sumN_lin (fun i => 1 * cr (pt l i) (pt l (nx l.length i)) - - st (pt l i) (pt l (nx l.length i))) (fun i => 1 * ((pt l (nx l.length i)).f0 + (pt l (nx l.length i)).f1 + (pt l (nx l.length i)).f0 * (pt l (nx l.length i)).f1) - ((pt l i).f0 + (pt l i).f1 + (pt l i).f0 * (pt l i).f1)) 1 l.length
  have s4 := sumN_lin (fun _ => 0) (fun i => st (pt l i) (pt l (nx l.length i))) 0 l.length
  have s5 : sumN (fun i => - st (pt l i) (pt l (nx l.length i))) l.length = - rn l := by
   have e5 : sumN (fun i => - st (pt l i) (pt l (nx l.length i))) l.length = sumN (fun i => 0 * (fun _ => (0 : Int)) i - st (pt l i) (pt l (nx l.length i))) l.length := sumN_congr fun i _ => by simp
   rw [e5, ← s4]
   unfold rn
   simp
  rw [← s1, ← s2, r, s5] at s3
  have e6 := sumN_congr (m := l.length) (f := fun i => (cr (pt l i) (pt l (nx l.length i)) + st (pt l i) (pt l (nx l.length i))) - (((pt l (nx l.length i)).f0 + (pt l (nx l.length i)).f1 + (pt l (nx l.length i)).f0 * (pt l (nx l.length i)).f1) - ((pt l i).f0 + (pt l i).f1 + (pt l i).f0 * (pt l i).f1)))
   (g := fun i => 1 * (1 * cr (pt l i) (pt l (nx l.length i)) - - st (pt l i) (pt l (nx l.length i))) - (1 * ((pt l (nx l.length i)).f0 + (pt l (nx l.length i)).f1 + (pt l (nx l.length i)).f0 * (pt l (nx l.length i)).f1) - ((pt l i).f0 + (pt l i).f1 + (pt l i).f0 * (pt l i).f1))) (fun i _ => by omega)
  rw [e6, ← s3]
  unfold ar
  omega
 rw [e] at h
 exact h
/-- Each side of a polygon with one point inside, which is the peg of noughts, is at the distance of one from it. -/
theorem hop {l : List S_impl_Peg} (ok : Poly l) (hc : conv l = true) (hi1 : inn l = 1) (hw : 0 < wh l oo) {i : Nat} (hi : i < l.length) : sgn (ar l) * cr (pt l i) (pt l (nx l.length i)) = st (pt l i) (pt l (nx l.length i)) := by
 have hne := Poly.area_ne ok
 have ev := ar_rn_even l
 have e0 : ab (ar l) = sgn (ar l) * ar l := by
  unfold ab
  rcases sgn_cases hne with ⟨e, h⟩ | ⟨e, h⟩
  ·rw [e, if_neg (by omega)]; omega
  ·rw [e, if_pos h]; omega
 have e1 : 2 ≤ ab (ar l) + 2 - rn l ∧ ab (ar l) + 2 - rn l ≤ 3 := by
  unfold inn at hi1
  have hp : 0 ≤ ab (ar l) + 2 - rn l := by
   refine Int.not_lt.1 fun c => ?_
   have : Int.tdiv (ab (ar l) + 2 - rn l) 2 = - Int.tdiv (-(ab (ar l) + 2 - rn l)) 2 := by rw [Int.neg_tdiv, Int.neg_neg]
   rw [this, Int.tdiv_eq_ediv_of_nonneg (by omega)] at hi1
   omega
  rw [Int.tdiv_eq_ediv_of_nonneg hp] at hi1
  omega
 have nn : ∀ j, j < l.length → 0 ≤ sgn (ar l) * cr (pt l j) (pt l (nx l.length j)) - st (pt l j) (pt l (nx l.length j)) := by
  intro j hj
  have h1 := inward ok hc hw hj
  obtain ⟨⟨u, hu⟩, ⟨v, hv⟩⟩ := st_dvd (pt l j) (pt l (nx l.length j))
  have h2 : st (pt l j) (pt l (nx l.length j)) ∣ sgn (ar l) * cr (pt l j) (pt l (nx l.length j)) := by
   refine ⟨sgn (ar l) * ((pt l j).f0 * v - (pt l j).f1 * u), ?_⟩
   have : cr (pt l j) (pt l (nx l.length j)) = (pt l j).f0 * ((pt l (nx l.length j)).f1 - (pt l j).f1) - (pt l j).f1 * ((pt l (nx l.length j)).f0 - (pt l j).f0) := by unfold cr; grind
   rw [this, hu, hv]
   grind
  have := Int.le_of_dvd h1 h2
  omega
 have hs := sumN_lin (fun j => cr (pt l j) (pt l (nx l.length j))) (fun j => st (pt l j) (pt l (nx l.length j))) (sgn (ar l)) l.length
 have hs' : sgn (ar l) * ar l - rn l = sumN (fun j => sgn (ar l) * cr (pt l j) (pt l (nx l.length j)) - st (pt l j) (pt l (nx l.length j))) l.length := hs
 have h0 : sgn (ar l) * ar l - rn l ≤ 0 := by
  rcases sgn_cases hne with ⟨e, h⟩ | ⟨e, h⟩ <;> rw [e] at e0 ⊢ <;> omega
 rw [hs'] at h0
 have := sumN_zero l.length nn h0 i hi
 omega

end Go.Proofs.Ytklhakfmegbobaa.B
