-- thin
/- What is a polygon to the program is a simple polygon: it has an area. -/
import Derived.Test.YtklhakfmegbobaaX0
import Derived.Test.YtklhakfmegbobaaBBase
import Derived.Test.YtklhakfmegbobaaBCore
import Derived.Test.YtklhakfmegbobaaBPoly
import Derived.Test.YtklhakfmegbobaaBAsk
import Derived.Test.YtklhakfmegbobaaBArea
import Derived.Test.YtklhakfmegbobaaBGeo
namespace Go.Proofs.Ytklhakfmegbobaa.B
open Go.RowKit Go.Proofs.Ytklhakfmegbobaa.XW Go.Proofs.Ytklhakfmegbobaa.X Go.Proofs.YtklhakfmegbobaaW.PrintWords Go.Proofs.YtklhakfmegbobaaW.PrintLast Go.Proofs.Ytklhakfmegbobaa.B
set_option linter.unusedVariables false
set_option linter.unusedSimpArgs false
set_option maxRecDepth 20000

def gp (p : S_impl_Peg) : Geo.Pt := ⟨p.f0, p.f1, 1⟩
theorem tn_det (a b c : S_impl_Peg) : tn a b c = Geo.det (gp a) (gp b) (gp c) := by
 simp only [tn, Geo.det, gp]
 grind
theorem gp_inj {a b : S_impl_Peg} (h : gp a = gp b) : a = b := by
 simp only [gp, Geo.Pt.mk.injEq] at h
 exact peg_ext h.1 h.2.1
theorem eds_ix {a b : Geo.Pt} : ∀ {M : List Geo.Pt}, (a, b) ∈ Geo.eds M → ∃ i, i + 1 < M.length ∧ M[i]? = some a ∧ M[i + 1]? = some b
 | [], h => by simp [Geo.eds] at h
 | [_], h => by simp [Geo.eds] at h
 | c :: d :: l, h => by
  simp only [Geo.eds, List.mem_cons, Prod.mk.injEq] at h
  rcases h with ⟨rfl, rfl⟩ | h
  ·exact ⟨0, by simp, rfl, rfl⟩
  ·obtain ⟨i, h1, h2, h3⟩ := eds_ix h
   exact ⟨i + 1, by simp only [List.length_cons] at h1 ⊢; omega, by simpa using h2, by simpa using h3⟩
theorem sumN_front (f : Nat → Int) : ∀ m, sumN f (m + 1) = f 0 + sumN (fun i => f (i + 1)) m
 | 0 => by simp [sumN]
 | m + 1 => by
  rw [show sumN f (m + 1 + 1) = sumN f (m + 1) + f (m + 1) from rfl, sumN_front f m]
  show _ = f 0 + (sumN (fun i => f (i + 1)) m + f (m + 1))
  omega
theorem asum_eds (z : Geo.Pt) : ∀ M : List Geo.Pt, Geo.asum (Geo.eds M) = sumN (fun i => Geo.crs (M.getD i z) (M.getD (i + 1) z)) (M.length - 1)
 | [] => rfl
 | [_] => rfl
 | c :: d :: l => by
  have := asum_eds z (d :: l)
  simp only [List.length_cons] at this ⊢
  rw [show l.length + 1 + 1 - 1 = (l.length + 1 - 1) + 1 by omega, sumN_front]
  simp only [Geo.eds, Geo.asum, this]
  rfl
/-- The corners, and the first one again. -/
def ring (l : List S_impl_Peg) : List Geo.Pt := l.map gp ++ [gp (pt l 0)]
theorem cyc_ring {l : List S_impl_Peg} (h0 : 0 < l.length) : Geo.cyc (l.map gp) = Geo.eds (ring l) := by
 cases l with
 | nil => simp at h0
 | cons c m => rfl
theorem ring_ix {l : List S_impl_Peg} {i : Nat} (h0 : 0 < l.length) (h : i ≤ l.length) : (ring l)[i]? = some (gp (pt l (if i = l.length then 0 else i))) := by
 unfold ring
 split
 ·rename_i e
  subst e
  rw [List.getElem?_append_right (by simp)]
  simp
 ·have hi : i < l.length := by omega
  rw [List.getElem?_append_left (by simpa using hi), List.getElem?_map]
  unfold pt
  rw [List.getD_eq_getElem?_getD, List.getElem?_eq_getElem hi]
  rfl
theorem ring_nx {l : List S_impl_Peg} {i : Nat} (h0 : 0 < l.length) (h : i < l.length) : (ring l)[i]? = some (gp (pt l i)) ∧ (ring l)[i + 1]? = some (gp (pt l (nx l.length i))) := by
 refine ⟨?_, ?_⟩
 ·rw [ring_ix h0 (by omega), if_neg (by omega)]
 ·rw [ring_ix h0 (by omega)]
  rfl
theorem cyc_ix {l : List S_impl_Peg} {a b : Geo.Pt} (h0 : 0 < l.length) (h : (a, b) ∈ Geo.cyc (l.map gp)) : ∃ i, i < l.length ∧ a = gp (pt l i) ∧ b = gp (pt l (nx l.length i)) := by
 rw [cyc_ring h0] at h
 obtain ⟨i, h1, h2, h3⟩ := eds_ix h
 have hi : i < l.length := by
  simp [ring] at h1
  omega
 obtain ⟨e1, e2⟩ := ring_nx h0 hi
 rw [e1] at h2
 rw [e2] at h3
 exact ⟨i, hi, (Option.some.inj h2).symm, (Option.some.inj h3).symm⟩
theorem asum_ar {l : List S_impl_Peg} (h0 : 0 < l.length) : Geo.asum (Geo.cyc (l.map gp)) = ar l := by
 rw [cyc_ring h0, asum_eds (gp z_impl_Peg)]
 have hl : (ring l).length - 1 = l.length := by simp [ring]
 rw [hl]
 unfold ar
 refine sumN_congr fun i hi => ?_
 obtain ⟨e1, e2⟩ := ring_nx h0 hi
 rw [List.getD_eq_getElem?_getD, List.getD_eq_getElem?_getD, e1, e2]
 show Geo.crs (gp _) (gp _) = cr _ _
 simp only [Geo.crs, gp, cr]
theorem le_of_comb {k α β x a b m : Int} (hk : 0 < k) (hα : 0 ≤ α) (hβ : 0 ≤ β) (hs : k * m = α + β) (h : k * x = α * a + β * b) (M : Int) (ha : a ≤ M) (hb : b ≤ M) : x ≤ m * M := by
 have h1 := Geo.mnz hα (show 0 ≤ M - a by omega)
 have h2 := Geo.mnz hβ (show 0 ≤ M - b by omega)
 have : 0 ≤ k * (m * M - x) := by
  have e : k * (m * M - x) = α * (M - a) + β * (M - b) := by
   have : k * (m * M) = (α + β) * M := by rw [← hs]; grind
   rw [Int.mul_sub, this, h]
   grind
  omega
 have := Geo.mnn hk this
 omega
/-- A point of whole numbers on a line is on it by the program's word. -/
theorem onb_of {a b p : S_impl_Peg} (h : Geo.On (gp p) (gp a) (gp b)) : onb a b p = true := by
 obtain ⟨k, α, β, hk, hα, hβ, h⟩ := h
 simp only [Geo.lc, gp, Geo.Pt.mk.injEq, Int.zero_mul, Int.add_zero, Int.mul_one] at h
 obtain ⟨h1, h2, h3⟩ := h
 subst h3
 have part : ∀ {x y z : Int}, (α + β) * z = α * x + β * y → (x - z) * (y - z) ≤ 0 := by
  intro x y z e
  refine btw.2 ⟨?_, ?_⟩
  ·have := le_of_comb (m := 1) (x := -z) (a := -x) (b := -y) hk hα hβ (by omega) (by grind) (-(mn x y)) (by unfold mn; split <;> omega) (by unfold mn; split <;> omega)
   omega
  ·have := le_of_comb (m := 1) (x := z) (a := x) (b := y) hk hα hβ (by omega) e (mx x y) (by unfold mx; split <;> omega) (by unfold mx; split <;> omega)
   omega
 have h0 : tn a b p = 0 := by
  refine Geo.mz hk ?_
  simp only [tn]
  grind
 unfold onb
 simp only [Bool.and_eq_true, decide_eq_true_eq]
 exact ⟨h0, part h1, part h2⟩
theorem on_shift {k l α β δ : Int} {p a b d : Geo.Pt} (hk : 0 < k) (hl : 0 < l) (hα : 0 ≤ α) (hβ : 0 ≤ β) (hδ : 0 < δ) (h : Geo.lc k p 0 p = Geo.lc α a β b) (h' : Geo.lc l p 0 p = Geo.lc δ d 0 d) : Geo.On d a b := by
 refine ⟨k * δ, l * α, l * β, Int.mul_pos hk hδ, Geo.mnz (Int.le_of_lt hl) hα, Geo.mnz (Int.le_of_lt hl) hβ, ?_⟩
 simp only [Geo.lc, Geo.Pt.mk.injEq] at h h' ⊢
 obtain ⟨h1, h2, h3⟩ := h
 obtain ⟨f1, f2, f3⟩ := h'
 refine ⟨?_, ?_, ?_⟩ <;> grind
def bt (a b c : Int) : Prop := (a ≤ c ∧ c ≤ b) ∨ (b ≤ c ∧ c ≤ a)
theorem bt_meet {a b c d : Int} (h1 : mn a b ≤ mx c d) (h2 : mn c d ≤ mx a b) : bt a b c ∨ bt a b d ∨ (bt c d a ∧ c ≠ d) := by
 unfold bt mn mx at *
 split at h1 <;> split at h1 <;> split at h2 <;> split at h2 <;> omega
theorem on_col {a b c : S_impl_Peg} {fa fb fc : Int} (hne : fa ≠ fb) (hb : bt fa fb fc) (hx : (fb - fa) * c.f0 = (fb - fc) * a.f0 + (fc - fa) * b.f0) (hy : (fb - fa) * c.f1 = (fb - fc) * a.f1 + (fc - fa) * b.f1) : Geo.On (gp c) (gp a) (gp b) := by
 rcases hb with h | h
 ·refine ⟨fb - fa, fb - fc, fc - fa, by omega, by omega, by omega, ?_⟩
  simp only [Geo.lc, gp, Geo.Pt.mk.injEq]
  exact ⟨by omega, by omega, by omega⟩
 ·refine ⟨fa - fb, fc - fb, fa - fc, by omega, by omega, by omega, ?_⟩
  simp only [Geo.lc, gp, Geo.Pt.mk.injEq]
  exact ⟨by grind, by grind, by omega⟩
theorem on_col_x {a b c : S_impl_Peg} (hne : a.f0 ≠ b.f0) (hb : bt a.f0 b.f0 c.f0) (h : tn a b c = 0) : Geo.On (gp c) (gp a) (gp b) := by
 unfold tn at h
 exact on_col hne hb (by grind) (by grind)
theorem on_col_y {a b c : S_impl_Peg} (hne : a.f1 ≠ b.f1) (hb : bt a.f1 b.f1 c.f1) (h : tn a b c = 0) : Geo.On (gp c) (gp a) (gp b) := by
 unfold tn at h
 exact on_col hne hb (by grind) (by grind)
theorem comb_bd {k α β x a b m : Int} (hk : 0 < k) (hα : 0 ≤ α) (hβ : 0 ≤ β) (hs : k * m = α + β) (h : k * x = α * a + β * b) : m * mn a b ≤ x ∧ x ≤ m * mx a b := by
 have h1 := le_of_comb (m := m) (x := -x) (a := -a) (b := -b) hk hα hβ hs (by grind) (-(mn a b)) (by unfold mn; split <;> omega) (by unfold mn; split <;> omega)
 have h2 := le_of_comb (m := m) (x := x) (a := a) (b := b) hk hα hβ hs h (mx a b) (by unfold mx; split <;> omega) (by unfold mx; split <;> omega)
 rw [Int.mul_neg] at h1
 exact ⟨by omega, h2⟩
theorem le_of_m {m x y z : Int} (hm : 0 < m) (h1 : m * x ≤ z) (h2 : z ≤ m * y) : x ≤ y := by
 have : 0 ≤ m * (y - x) := by rw [Int.mul_sub]; omega
 have := Geo.mnn hm this
 omega
theorem sgn_opp {k l x y : Int} (hk : 0 < k) (hl : 0 < l) (h : k * x + l * y = 0) (hx : x ≠ 0) : sgn x * sgn y < 0 := by
 unfold sgn
 rcases Int.lt_or_gt_of_ne hx with i | i
 ·have := Int.mul_pos hk (show 0 < -x by omega)
  rw [Int.mul_neg] at this
  have := Geo.mpos hl (show 0 < l * y by omega)
  rw [if_neg (by omega), if_pos (by omega), if_pos (by omega)]
  omega
 ·have := Int.mul_pos hk i
  have := Geo.mpos hl (show 0 < l * (-y) by rw [Int.mul_neg]; omega)
  rw [if_pos (by omega), if_neg (by omega), if_pos (by omega)]
  omega
theorem mt_on {a b c d : S_impl_Peg} (h : Geo.On (gp c) (gp a) (gp b) ∨ Geo.On (gp d) (gp a) (gp b) ∨ Geo.On (gp a) (gp c) (gp d) ∨ Geo.On (gp b) (gp c) (gp d)) : mt a b c d = true := by
 unfold mt
 rcases h with h | h | h | h <;> simp [onb_of h]
/-- Lines that have a point in common meet by the program's word. -/
theorem mt_of {a b c d : S_impl_Peg} (hab : a ≠ b) {p : Geo.Pt} (pz : 0 < p.z) (h1 : Geo.On p (gp a) (gp b)) (h2 : Geo.On p (gp c) (gp d)) : mt a b c d = true := by
 obtain ⟨k, α, β, hk, hα, hβ, h⟩ := h1
 obtain ⟨l, γ, δ, hl, hγ, hδ, h'⟩ := h2
 have kz := Geo.lz h
 have lz := Geo.lz h'
 have kz' := Int.mul_pos hk pz
 have lz' := Int.mul_pos hl pz
 simp only [gp, Int.mul_one] at kz lz
 by_cases a0 : α = 0
 ·exact mt_on (Or.inr (Or.inr (Or.inr (on_shift hl hk hγ hδ (show 0 < β by omega) h' (by rw [h, a0]; simp only [Geo.lc, Int.zero_mul, Int.zero_add, Int.add_zero])))))
 by_cases b0 : β = 0
 ·exact mt_on (Or.inr (Or.inr (Or.inl (on_shift hl hk hγ hδ (show 0 < α by omega) h' (by rw [h, b0]; simp only [Geo.lc, Int.zero_mul])))))
 by_cases c0 : γ = 0
 ·exact mt_on (Or.inr (Or.inl (on_shift hk hl hα hβ (show 0 < δ by omega) h (by rw [h', c0]; simp only [Geo.lc, Int.zero_mul, Int.zero_add, Int.add_zero]))))
 by_cases d0 : δ = 0
 ·exact mt_on (Or.inl (on_shift hk hl hα hβ (show 0 < γ by omega) h (by rw [h', d0]; simp only [Geo.lc, Int.zero_mul])))
 have e1 : γ * tn a b c + δ * tn a b d = 0 := by
  have i1 := Geo.lfw h 1 (gp a) (gp b) (gp a)
  have i2 := Geo.lfw h' 1 (gp a) (gp b) (gp a)
  rw [Geo.fw_u, Geo.fw_v, Int.mul_zero, Int.mul_zero, Int.add_zero] at i1
  rw [Geo.mz hk i1, Int.mul_zero] at i2
  simp only [Geo.fw, Int.one_mul] at i2
  rw [tn_det, tn_det]
  exact i2.symm
 have e2 : α * tn c d a + β * tn c d b = 0 := by
  have i1 := Geo.lfw h' 1 (gp c) (gp d) (gp a)
  have i2 := Geo.lfw h 1 (gp c) (gp d) (gp a)
  rw [Geo.fw_u, Geo.fw_v, Int.mul_zero, Int.mul_zero, Int.add_zero] at i1
  rw [Geo.mz hl i1, Int.mul_zero] at i2
  simp only [Geo.fw, Int.one_mul] at i2
  rw [tn_det, tn_det]
  exact i2.symm
 by_cases t0 : tn a b c = 0
 ·have t1 : tn a b d = 0 := by
   rw [t0, Int.mul_zero, Int.zero_add] at e1
   exact Geo.mz (show 0 < δ by omega) e1
  have s0 : tn c d a = 0 ∧ tn c d b = 0 := by
   have f0 : tn c d a = tn c d b := by unfold tn at *; grind
   have f1 : (α + β) * tn c d a = 0 := by rw [← f0] at e2; grind
   have := Geo.mz (show 0 < α + β by omega) f1
   omega
  simp only [Geo.lc, gp, Geo.Pt.mk.injEq, Int.zero_mul, Int.add_zero, Int.mul_one] at h h'
  obtain ⟨x1, y1, z1⟩ := h
  obtain ⟨x2, y2, z2⟩ := h'
  obtain ⟨ax1, ax2⟩ := comb_bd hk hα hβ z1 x1
  obtain ⟨ay1, ay2⟩ := comb_bd hk hα hβ z1 y1
  obtain ⟨cx1, cx2⟩ := comb_bd hl hγ hδ z2 x2
  obtain ⟨cy1, cy2⟩ := comb_bd hl hγ hδ z2 y2
  by_cases hx : a.f0 = b.f0
  ·have hy : a.f1 ≠ b.f1 := fun e => hab (peg_ext hx e)
   rcases bt_meet (le_of_m pz ay1 cy2) (le_of_m pz cy1 ay2) with i | i | ⟨i, i'⟩
   ·exact mt_on (Or.inl (on_col_y hy i t0))
   ·exact mt_on (Or.inr (Or.inl (on_col_y hy i t1)))
   ·exact mt_on (Or.inr (Or.inr (Or.inl (on_col_y i' i s0.1))))
  ·rcases bt_meet (le_of_m pz ax1 cx2) (le_of_m pz cx1 ax2) with i | i | ⟨i, i'⟩
   ·exact mt_on (Or.inl (on_col_x hx i t0))
   ·exact mt_on (Or.inr (Or.inl (on_col_x hx i t1)))
   ·exact mt_on (Or.inr (Or.inr (Or.inl (on_col_x i' i s0.1))))
 ·have o1 := sgn_opp (show 0 < γ by omega) (show 0 < δ by omega) e1 t0
  have s0 : tn c d a ≠ 0 := by
   intro s0
   have s1 : tn c d b = 0 := by
    rw [s0, Int.mul_zero, Int.zero_add] at e2
    exact Geo.mz (show 0 < β by omega) e2
   have f0 : tn a b c = tn a b d := by unfold tn at *; grind
   have f1 : (γ + δ) * tn a b c = 0 := by rw [← f0] at e1; grind
   exact t0 (Geo.mz (show 0 < γ + δ by omega) f1)
  have o2 := sgn_opp (show 0 < α by omega) (show 0 < β by omega) e2 s0
  unfold mt crs
  simp [o1, o2]
theorem ok_next {a b c : S_impl_Peg} (h : tn a b c ≠ 0) : Geo.OK (gp a) (gp b) (gp b) (gp c) := by
 intro p pz h1 h2
 obtain ⟨k, α, β, hk, hα, hβ, h1⟩ := h1
 obtain ⟨l, γ, δ, hl, hγ, hδ, h2⟩ := h2
 have i1 := Geo.lfw h1 1 (gp a) (gp b) (gp a)
 have i2 := Geo.lfw h2 1 (gp a) (gp b) (gp a)
 rw [Geo.fw_u, Geo.fw_v, Int.mul_zero, Int.mul_zero, Int.add_zero] at i1
 rw [Geo.fw_v, Geo.mz hk i1, Int.mul_zero, Int.mul_zero, Int.zero_add] at i2
 simp only [Geo.fw, Int.one_mul] at i2
 rw [← tn_det] at i2
 have d0 : δ = 0 := by
  rcases Int.mul_eq_zero.1 i2.symm with e | e
  ·exact e
  ·exact absurd e h
 exact ⟨gp b, Or.inr rfl, Or.inl rfl, Geo.Is.of (α := γ) rfl hl (by rw [h2, d0]; simp only [Geo.lc, Int.zero_mul])⟩
section
variable {l : List S_impl_Peg} (ok : Poly l)
include ok
theorem ok_ij {i j : Nat} (hi : i < l.length) (hj : j < i) : Geo.OK (gp (pt l j)) (gp (pt l (nx l.length j))) (gp (pt l i)) (gp (pt l (nx l.length i))) := by
 have h3 := ok.lo
 by_cases e1 : j + 1 = i
 ·have := ok.turns i hi
  rw [show pv l.length i = j by unfold pv; split <;> omega] at this
  rw [show nx l.length j = i by unfold nx; split <;> omega]
  exact ok_next this
 ·by_cases e2 : i - j < l.length - 1
  ·have hm := ok.apart i hi j (by omega) e2
   intro p pz h1 h2
   have hne : pt l j ≠ pt l (nx l.length j) := by
    have : nx l.length j = j + 1 := by unfold nx; split <;> omega
    rw [this]
    exact ok.diff (j + 1) (by omega) j (by omega)
   rw [mt_of hne pz h1 h2] at hm
   exact absurd hm (by decide)
  ·have := ok.turns j (by omega)
   rw [show pv l.length j = i by unfold pv; split <;> omega] at this
   rw [show nx l.length i = j by unfold nx; split <;> omega]
   exact (ok_next this).symm
theorem simple : Geo.Simple (l.map gp) := by
 have h3 := ok.lo
 refine ⟨?_, ?_, ?_⟩
 ·intro a ha
  obtain ⟨p, _, rfl⟩ := List.mem_map.1 ha
  rfl
 ·rw [List.Nodup, List.pairwise_iff_getElem]
  intro i j hi hj hij e
  rw [List.length_map] at hi hj
  simp only [List.getElem_map] at e
  refine ok.diff j hj i hij ?_
  unfold pt
  rw [List.getD_eq_getElem?_getD, List.getD_eq_getElem?_getD, List.getElem?_eq_getElem hi, List.getElem?_eq_getElem hj]
  exact gp_inj e
 ·intro a b c d h1 h2 hne
  obtain ⟨i, hi, rfl, rfl⟩ := cyc_ix (by omega) h1
  obtain ⟨j, hj, rfl, rfl⟩ := cyc_ix (by omega) h2
  rcases Nat.lt_trichotomy i j with e | e | e
  ·exact ok_ij ok hj e
  ·subst e
   exact absurd rfl hne
  ·exact (ok_ij ok hi e).symm
/-- A polygon has an area. -/
theorem Poly.area_ne : ar l ≠ 0 := by
 have h3 := ok.lo
 rw [← asum_ar (by omega)]
 exact Geo.area_ne (simple ok) (by rw [List.length_map]; exact h3)
end

end Go.Proofs.Ytklhakfmegbobaa.B
