-- thin
/- A frame is what one move alone brings a polygon to: two polygons with one frame are brought to each other by a move. -/
import Derived.Test.YtphkphjddkjabaaX0
import Derived.Test.YtphkphjddkjabaaBBase
import Derived.Test.YtphkphjddkjabaaBCore
import Derived.Test.YtphkphjddkjabaaBPoly
import Derived.Test.YtphkphjddkjabaaBAsk
import Derived.Test.YtphkphjddkjabaaBTold
import Derived.Test.YtphkphjddkjabaaBOrder
import Derived.Test.YtphkphjddkjabaaBGcd
import Derived.Test.YtphkphjddkjabaaBFrame
namespace Go.Proofs.Ytphkphjddkjabaa.B
open Go.RowKit Go.Proofs.Ytphkphjddkjabaa.XW Go.Proofs.Ytphkphjddkjabaa.X Go.Proofs.YtphkphjddkjabaaW.PrintWords Go.Proofs.YtphkphjddkjabaaW.PrintLast Go.Proofs.Ytphkphjddkjabaa.B
set_option linter.unusedVariables false
set_option linter.unusedSimpArgs false
set_option maxRecDepth 20000

/-! ### Frames: a list of ways from the first corner, brought to a form that only one of all its moves has -/
theorem unit_mul {x y : Int} (hx : 0 < x) (h : x * y = 1 ∨ x * y = -1) : x = 1 ∧ (y = 1 ∨ y = -1) := by
 have hy : y ≠ 0 := by
  rintro rfl
  simp at h
 have h1 : x ≤ 1 := by
  refine Int.not_lt.1 fun c => ?_
  rcases Int.lt_or_gt_of_ne hy with i | i
  ·have := Int.mul_le_mul_of_nonneg_left (show (1 : Int) ≤ -y by omega) (Int.le_of_lt hx)
   rw [Int.mul_neg, Int.mul_one] at this
   omega
  ·have := Int.mul_le_mul_of_nonneg_left (show (1 : Int) ≤ y by omega) (Int.le_of_lt hx)
   rw [Int.mul_one] at this
   omega
 have h2 : x = 1 := by omega
 subst h2
 omega
/-- What brings ways to their frame. -/
structure Fr (a b c d : Int) (x1 y1 x2 y2 : Int) : Prop where
 one : a * d - b * c = 1 ∨ a * d - b * c = -1
 g : 0 < a * x1 + b * y1
 z : c * x1 + d * y1 = 0
 h : 0 < c * x2 + d * y2
 lo : 0 ≤ a * x2 + b * y2
 hi : a * x2 + b * y2 < c * x2 + d * y2
theorem Fr.unique {a b c d a' b' c' d' e f g h x1 y1 x2 y2 : Int} (F : Fr a b c d x1 y1 x2 y2) (N : e * h - f * g = 1 ∨ e * h - f * g = -1)
  (F' : Fr a' b' c' d' (e * x1 + f * y1) (g * x1 + h * y1) (e * x2 + f * y2) (g * x2 + h * y2)) :
  a' * e + b' * g = a ∧ a' * f + b' * h = b ∧ c' * e + d' * g = c ∧ c' * f + d' * h = d := by
 obtain ⟨δ, hδ, hδ2⟩ : ∃ δ : Int, δ = a * d - b * c ∧ δ * δ = 1 := ⟨_, rfl, by rcases F.one with h | h <;> rw [h] <;> rfl⟩
 obtain ⟨m1, e1⟩ : ∃ m, m = a' * e + b' * g := ⟨_, rfl⟩
 obtain ⟨m2, e2⟩ : ∃ m, m = a' * f + b' * h := ⟨_, rfl⟩
 obtain ⟨m3, e3⟩ : ∃ m, m = c' * e + d' * g := ⟨_, rfl⟩
 obtain ⟨m4, e4⟩ : ∃ m, m = c' * f + d' * h := ⟨_, rfl⟩
 rw [← e1, ← e2, ← e3, ← e4]
 obtain ⟨k1, q1⟩ : ∃ k, k = δ * (m1 * d - m2 * c) := ⟨_, rfl⟩
 obtain ⟨k2, q2⟩ : ∃ k, k = δ * (m2 * a - m1 * b) := ⟨_, rfl⟩
 obtain ⟨k3, q3⟩ : ∃ k, k = δ * (m3 * d - m4 * c) := ⟨_, rfl⟩
 obtain ⟨k4, q4⟩ : ∃ k, k = δ * (m4 * a - m3 * b) := ⟨_, rfl⟩
 have r1 : m1 = k1 * a + k2 * c := by
  have : k1 * a + k2 * c = δ * (a * d - b * c) * m1 := by rw [q1, q2]; grind
  rw [this, ← hδ, hδ2, Int.one_mul]
 have r2 : m2 = k1 * b + k2 * d := by
  have : k1 * b + k2 * d = δ * (a * d - b * c) * m2 := by rw [q1, q2]; grind
  rw [this, ← hδ, hδ2, Int.one_mul]
 have r3 : m3 = k3 * a + k4 * c := by
  have : k3 * a + k4 * c = δ * (a * d - b * c) * m3 := by rw [q3, q4]; grind
  rw [this, ← hδ, hδ2, Int.one_mul]
 have r4 : m4 = k3 * b + k4 * d := by
  have : k3 * b + k4 * d = δ * (a * d - b * c) * m4 := by rw [q3, q4]; grind
  rw [this, ← hδ, hδ2, Int.one_mul]
 have dK : k1 * k4 - k2 * k3 = δ * ((a' * d' - b' * c') * (e * h - f * g)) := by
  have s1 : k1 * k4 - k2 * k3 = δ * δ * ((a * d - b * c) * (m1 * m4 - m2 * m3)) := by rw [q1, q2, q3, q4]; grind
  have s2 : m1 * m4 - m2 * m3 = (a' * d' - b' * c') * (e * h - f * g) := by rw [e1, e2, e3, e4]; grind
  rw [s1, s2, hδ2, Int.one_mul, ← hδ]
 have p1 : a' * (e * x1 + f * y1) + b' * (g * x1 + h * y1) = k1 * (a * x1 + b * y1) + k2 * (c * x1 + d * y1) := by
  have : a' * (e * x1 + f * y1) + b' * (g * x1 + h * y1) = m1 * x1 + m2 * y1 := by rw [e1, e2]; grind
  rw [this, r1, r2]; grind
 have p2 : c' * (e * x1 + f * y1) + d' * (g * x1 + h * y1) = k3 * (a * x1 + b * y1) + k4 * (c * x1 + d * y1) := by
  have : c' * (e * x1 + f * y1) + d' * (g * x1 + h * y1) = m3 * x1 + m4 * y1 := by rw [e3, e4]; grind
  rw [this, r3, r4]; grind
 have p3 : a' * (e * x2 + f * y2) + b' * (g * x2 + h * y2) = k1 * (a * x2 + b * y2) + k2 * (c * x2 + d * y2) := by
  have : a' * (e * x2 + f * y2) + b' * (g * x2 + h * y2) = m1 * x2 + m2 * y2 := by rw [e1, e2]; grind
  rw [this, r1, r2]; grind
 have p4 : c' * (e * x2 + f * y2) + d' * (g * x2 + h * y2) = k3 * (a * x2 + b * y2) + k4 * (c * x2 + d * y2) := by
  have : c' * (e * x2 + f * y2) + d' * (g * x2 + h * y2) = m3 * x2 + m4 * y2 := by rw [e3, e4]; grind
  rw [this, r3, r4]; grind
 obtain ⟨o, hg, hz, hh, hlo, hhi⟩ := F
 obtain ⟨o', hg', hz', hh', hlo', hhi'⟩ := F'
 have hD : k1 * k4 - k2 * k3 = 1 ∨ k1 * k4 - k2 * k3 = -1 := by
  rw [dK, hδ]
  rcases o with h1 | h1 <;> rcases o' with h2 | h2 <;> rcases N with h3 | h3 <;> rw [h1, h2, h3] <;> simp
 rw [p1] at hg'
 rw [p2] at hz'
 rw [p3] at hlo' hhi'
 rw [p4] at hh' hhi'
 generalize a * x1 + b * y1 = G at *
 generalize c * x1 + d * y1 = Z at *
 generalize a * x2 + b * y2 = B at *
 generalize c * x2 + d * y2 = H at *
 subst hz
 rw [Int.mul_zero, Int.add_zero] at hg' hz'
 have k30 : k3 = 0 := by
  rcases Int.mul_eq_zero.1 hz' with h | h
  ·exact h
  ·omega
 subst k30
 rw [Int.mul_zero, Int.sub_zero] at hD
 rw [Int.zero_mul, Int.zero_add] at hh' hhi'
 have k1p : 0 < k1 := by
  refine Int.not_le.1 fun c => ?_
  have := Int.mul_nonneg (show 0 ≤ -k1 by omega) (Int.le_of_lt hg)
  rw [Int.neg_mul] at this
  omega
 obtain ⟨k11, k41⟩ := unit_mul k1p hD
 subst k11
 have k4p : k4 = 1 := by
  rcases k41 with h | h
  ·exact h
  ·subst h
   omega
 subst k4p
 rw [Int.one_mul] at hh' hhi' hlo'
 rw [Int.one_mul] at hhi'
 have k20 : k2 = 0 := by
  rcases Int.lt_trichotomy k2 0 with h | h | h
  ·have := Int.mul_le_mul_of_nonneg_right (show k2 ≤ -1 by omega) (Int.le_of_lt hh)
   omega
  ·exact h
  ·have := Int.mul_le_mul_of_nonneg_right (show (1 : Int) ≤ k2 by omega) (Int.le_of_lt hh)
   omega
 subst k20
 refine ⟨?_, ?_, ?_, ?_⟩ <;> omega
/-! ### Rests without bounds -/
def bzE : Nat → Int → Int → Int → Int → Int → Int → Int × Int × Int
 | 0, a, _, u, v, _, _ => (a, u, v)
 | n + 1, a, b, u, v, x, y => if b = 0 then (a, u, v) else bzE n b (Int.tmod a b) x y (u - Int.tdiv a b * x) (v - Int.tdiv a b * y)
theorem bzE_lin (a0 b0 : Int) : ∀ (n : Nat) (a b u v x y : Int), a = u * a0 + v * b0 → b = x * a0 + y * b0 → (bzE n a b u v x y).1 = (bzE n a b u v x y).2.1 * a0 + (bzE n a b u v x y).2.2 * b0
 | 0, a, b, u, v, x, y, h1, _ => h1
 | n + 1, a, b, u, v, x, y, h1, h2 => by
  unfold bzE
  split
  ·exact h1
  ·refine bzE_lin a0 b0 n _ _ _ _ _ _ h2 ?_
   have e := Int.tmod_add_mul_tdiv a b
   have e2 : Int.tmod a b = a - b * Int.tdiv a b := by omega
   rw [e2]
   generalize Int.tdiv a b = q
   subst h1 h2
   grind
/-- The signs of two rests and of two factors that make them. -/
def Sg (a b u x : Int) : Prop := ((0 < a ∧ 0 < b) ∨ (a < 0 ∧ b < 0) → (u ≤ 0 ∧ 0 ≤ x) ∨ (0 ≤ u ∧ x ≤ 0)) ∧ ((0 < a ∧ b < 0) ∨ (a < 0 ∧ 0 < b) → (0 ≤ u ∧ 0 ≤ x) ∨ (u ≤ 0 ∧ x ≤ 0))
theorem tdiv_sign {a b : Int} : ((0 < a ∧ 0 < b) ∨ (a < 0 ∧ b < 0) → 0 ≤ Int.tdiv a b) ∧ ((0 < a ∧ b < 0) ∨ (a < 0 ∧ 0 < b) → Int.tdiv a b ≤ 0) := by
 refine ⟨?_, ?_⟩
 ·rintro (⟨h1, h2⟩ | ⟨h1, h2⟩)
  ·exact Int.tdiv_nonneg (by omega) (by omega)
  ·have := Int.tdiv_nonneg (a := -a) (b := -b) (by omega) (by omega)
   rw [Int.neg_tdiv_neg] at this
   exact this
 ·rintro (⟨h1, h2⟩ | ⟨h1, h2⟩)
  ·have := Int.tdiv_nonneg (a := a) (b := -b) (by omega) (by omega)
   rw [Int.tdiv_neg] at this
   omega
  ·have := Int.tdiv_nonneg (a := -a) (b := b) (by omega) (by omega)
   rw [Int.neg_tdiv] at this
   omega
theorem tmod_sign {a b : Int} : (0 ≤ a → 0 ≤ Int.tmod a b) ∧ (a ≤ 0 → Int.tmod a b ≤ 0) := by
 refine ⟨fun h => Int.tmod_nonneg _ h, fun h => ?_⟩
 have := Int.tmod_nonneg (a := -a) b (by omega)
 rw [Int.neg_tmod] at this
 omega
theorem sg_step {a b u x : Int} (ha : a ≠ 0) (hb : b ≠ 0) (h : Sg a b u x) : Sg b (Int.tmod a b) x (u - Int.tdiv a b * x) ∧ (u - Int.tdiv a b * x).natAbs = u.natAbs + (Int.tdiv a b).natAbs * x.natAbs := by
 obtain ⟨q1, q2⟩ := tdiv_sign (a := a) (b := b)
 obtain ⟨r1, r2⟩ := tmod_sign (a := a) (b := b)
 obtain ⟨h1, h2⟩ := h
 rw [← Int.natAbs_mul]
 generalize Int.tmod a b = r at *
 generalize hq : Int.tdiv a b = q at *
 have pos : ∀ {s t : Int}, 0 ≤ s → 0 ≤ t → 0 ≤ s * t := fun h1 h2 => Int.mul_nonneg h1 h2
 have n1 : 0 ≤ q → 0 ≤ x → 0 ≤ q * x := pos
 have n2 : 0 ≤ q → x ≤ 0 → q * x ≤ 0 := fun h1 h2 => by
  have := pos h1 (show 0 ≤ -x by omega)
  rw [Int.mul_neg] at this
  omega
 have n3 : q ≤ 0 → 0 ≤ x → q * x ≤ 0 := fun h1 h2 => by
  have := pos (show 0 ≤ -q by omega) h2
  rw [Int.neg_mul] at this
  omega
 have n4 : q ≤ 0 → x ≤ 0 → 0 ≤ q * x := fun h1 h2 => by
  have := pos (show 0 ≤ -q by omega) (show 0 ≤ -x by omega)
  rw [Int.neg_mul_neg] at this
  exact this
 generalize q * x = p at *
 unfold Sg
 rcases Int.lt_or_gt_of_ne ha with a1 | a1 <;> rcases Int.lt_or_gt_of_ne hb with b1 | b1
 ·have q0 := q1 (Or.inr ⟨a1, b1⟩)
  have r0 := r2 (by omega)
  rcases h1 (Or.inr ⟨a1, b1⟩) with ⟨u1, x1⟩ | ⟨u1, x1⟩
  ·have := n1 q0 x1
   refine ⟨⟨?_, ?_⟩, ?_⟩ <;> omega
  ·have := n2 q0 x1
   refine ⟨⟨?_, ?_⟩, ?_⟩ <;> omega
 ·have q0 := q2 (Or.inr ⟨a1, b1⟩)
  have r0 := r2 (by omega)
  rcases h2 (Or.inr ⟨a1, b1⟩) with ⟨u1, x1⟩ | ⟨u1, x1⟩
  ·have := n3 q0 x1
   refine ⟨⟨?_, ?_⟩, ?_⟩ <;> omega
  ·have := n4 q0 x1
   refine ⟨⟨?_, ?_⟩, ?_⟩ <;> omega
 ·have q0 := q2 (Or.inl ⟨a1, b1⟩)
  have r0 := r1 (by omega)
  rcases h2 (Or.inl ⟨a1, b1⟩) with ⟨u1, x1⟩ | ⟨u1, x1⟩
  ·have := n3 q0 x1
   refine ⟨⟨?_, ?_⟩, ?_⟩ <;> omega
  ·have := n4 q0 x1
   refine ⟨⟨?_, ?_⟩, ?_⟩ <;> omega
 ·have q0 := q1 (Or.inl ⟨a1, b1⟩)
  have r0 := r1 (by omega)
  rcases h1 (Or.inl ⟨a1, b1⟩) with ⟨u1, x1⟩ | ⟨u1, x1⟩
  ·have := n1 q0 x1
   refine ⟨⟨?_, ?_⟩, ?_⟩ <;> omega
  ·have := n2 q0 x1
   refine ⟨⟨?_, ?_⟩, ?_⟩ <;> omega
theorem abs_step (a b : Int) : a.natAbs = (Int.tdiv a b).natAbs * b.natAbs + (Int.tmod a b).natAbs := by
 rw [Int.natAbs_tdiv, Int.natAbs_tmod, Nat.mul_comm]
 exact (Nat.div_add_mod _ _).symm
/-- The factors stay small. -/
theorem step_bd {a b u x : Int} {K : Nat} (ha : a ≠ 0) (hb : b ≠ 0) (h : Sg a b u x) (hK : u.natAbs * b.natAbs + x.natAbs * a.natAbs = K) :
  Sg b (Int.tmod a b) x (u - Int.tdiv a b * x) ∧ x.natAbs * (Int.tmod a b).natAbs + (u - Int.tdiv a b * x).natAbs * b.natAbs = K ∧ (u - Int.tdiv a b * x).natAbs ≤ K := by
 obtain ⟨h1, h2⟩ := sg_step ha hb h
 have e := abs_step a b
 have e2 : x.natAbs * (Int.tmod a b).natAbs + (u - Int.tdiv a b * x).natAbs * b.natAbs = K := by
  rw [h2, ← hK, e]
  generalize (Int.tdiv a b).natAbs = Q
  generalize (Int.tmod a b).natAbs = R
  generalize x.natAbs = X
  generalize u.natAbs = U
  generalize b.natAbs = B
  grind
 refine ⟨h1, e2, ?_⟩
 have hb' : 1 ≤ b.natAbs := by omega
 have := Nat.mul_le_mul_left (u - Int.tdiv a b * x).natAbs hb'
 omega
theorem bz_eq : ∀ (n : Nat) (a b u v x y : Int) (Ku Kv : Nat), b.natAbs ≤ n → a.natAbs ≤ 1000 → b.natAbs ≤ 1000 → a ≠ 0 → Sg a b u x → Sg a b v y → u.natAbs * b.natAbs + x.natAbs * a.natAbs = Ku → v.natAbs * b.natAbs + y.natAbs * a.natAbs = Kv → Ku ≤ 1000 → Kv ≤ 1000 →
  u.natAbs ≤ 1000 → v.natAbs ≤ 1000 → x.natAbs ≤ 1000 → y.natAbs ≤ 1000 → bz n a b u v x y = bzE n a b u v x y ∧ (bzE n a b u v x y).2.1.natAbs ≤ 1000 ∧ (bzE n a b u v x y).2.2.natAbs ≤ 1000 := by
 intro n
 induction n with
 | zero =>
  intro a b u v x y Ku Kv hb _ _ _ _ _ _ _ _ _ hu hv _ _
  exact ⟨rfl, hu, hv⟩
 | succ n ih =>
  intro a b u v x y Ku Kv hn ha hb ha0 su sv eu ev hKu hKv hu hv hx hy
  unfold bz bzE
  by_cases h0 : b = 0
  ·rw [if_pos h0, if_pos h0]
   exact ⟨rfl, hu, hv⟩
  ·rw [if_neg h0, if_neg h0]
   obtain ⟨s1, k1, m1⟩ := step_bd ha0 h0 su eu
   obtain ⟨s2, k2, m2⟩ := step_bd ha0 h0 sv ev
   have hs := tmod_small (a := a) h0
   have hq : (Int.tdiv a b).natAbs ≤ 1000 := by
    rw [Int.natAbs_tdiv]
    exact Nat.le_trans (Nat.div_le_self _ _) ha
   have p1 := mul_bd (x := Int.tdiv a b) (y := x) (A := 1000) (B := 1000) (by omega) (by omega)
   have p2 := mul_bd (x := Int.tdiv a b) (y := y) (A := 1000) (B := 1000) (by omega) (by omega)
   rw [rest_eq h0 (by omega) (by omega), w64 (x := Int.tdiv a b) (by omega), w64 (x := Int.tdiv a b * x) (by omega), w64 (x := Int.tdiv a b * y) (by omega), w64 (x := u - Int.tdiv a b * x) (by omega), w64 (x := v - Int.tdiv a b * y) (by omega)]
   exact ih _ _ _ _ _ _ Ku Kv (by omega) (by omega) (by omega) h0 s1 s2 k1 k2 hKu hKv hx hy (by omega) (by omega)
/-- What the rests of two small numbers come to, and the factors that make it. -/
theorem bz_start {a b : Int} (ha : a.natAbs ≤ 1000) (hb : b.natAbs ≤ 1000) :
  (bz b.natAbs a b 1 0 0 1).1 = (bz b.natAbs a b 1 0 0 1).2.1 * a + (bz b.natAbs a b 1 0 0 1).2.2 * b ∧ (bz b.natAbs a b 1 0 0 1).2.1.natAbs ≤ 1000 ∧ (bz b.natAbs a b 1 0 0 1).2.2.natAbs ≤ 1000 := by
 by_cases h0 : a = 0
 ·subst h0
  by_cases hb0 : b = 0
  ·subst hb0
   exact ⟨rfl, by decide, by decide⟩
  ·obtain ⟨n, hn⟩ : ∃ n, b.natAbs = n + 1 := ⟨b.natAbs - 1, by omega⟩
   have e : bz b.natAbs 0 b 1 0 0 1 = (b, 0, 1) := by
    rw [hn]
    unfold bz
    rw [if_neg hb0]
    have q0 : Int.tdiv 0 b = 0 := Int.zero_tdiv b
    rw [q0]
    have w0 : wrap64 0 = 0 := w64 (by omega)
    have w1 : wrap64 1 = 1 := w64 (by omega)
    simp only [w0, Int.zero_mul, Int.sub_zero, w1]
    cases n with
    | zero => rfl
    | succ n =>
     unfold bz
     rw [if_pos rfl]
   rw [e]
   refine ⟨?_, ?_, ?_⟩
   ·show b = 0 * 0 + 1 * b
    omega
   ·show (0 : Int).natAbs ≤ 1000
    decide
   ·show (1 : Int).natAbs ≤ 1000
    decide
 ·have s1 : Sg a b 1 0 := by
   unfold Sg
   omega
  have s2 : Sg a b 0 1 := by
   unfold Sg
   omega
  obtain ⟨e, e1, e2⟩ := bz_eq b.natAbs a b 1 0 0 1 b.natAbs a.natAbs (Nat.le_refl _) ha hb h0 s1 s2 (by simp) (by simp) hb ha (by decide) (by decide) (by decide) (by decide)
  rw [e]
  exact ⟨bzE_lin a b _ _ _ _ _ _ _ (by omega) (by omega), e1, e2⟩
theorem fk_ok {X Y : Int} (hY : 0 < Y) (hX : -1000000 ≤ X ∧ X ≤ 1000000) (hYb : Y ≤ 1000000) : 0 ≤ X + fk X Y * Y ∧ X + fk X Y * Y < Y ∧ -4000000 ≤ fk X Y ∧ fk X Y ≤ 4000000 := by
 have s1 := tmod_small (a := X) (b := Y) (by omega)
 have e1 := Int.tmod_add_mul_tdiv X Y
 have s2 := tmod_small (a := Int.tmod X Y + Y) (b := Y) (by omega)
 have e2 := Int.tmod_add_mul_tdiv (Int.tmod X Y + Y) Y
 have n2 := Int.tmod_nonneg (a := Int.tmod X Y + Y) Y (by omega)
 have hk : Int.tmod (Int.tmod X Y + Y) Y - X = Y * (1 - Int.tdiv X Y - Int.tdiv (Int.tmod X Y + Y) Y) := by
  rw [Int.mul_sub, Int.mul_sub, Int.mul_one]
  omega
 have ek : fk X Y = 1 - Int.tdiv X Y - Int.tdiv (Int.tmod X Y + Y) Y := by
  unfold fk
  rw [w64 (x := Int.tmod X Y + Y) (by omega), w64 (x := Int.tmod (Int.tmod X Y + Y) Y - X) (by omega), hk, Int.mul_tdiv_cancel_left _ (by omega)]
  have b1 := tdv_bd (x := X) (B := 1000000) (by omega) Y
  have b2 := tdv_bd (x := Int.tmod X Y + Y) (B := 2000000) (by omega) Y
  rw [w64 (by omega)]
 have b1 := tdv_bd (x := X) (B := 1000000) (by omega) Y
 have b2 := tdv_bd (x := Int.tmod X Y + Y) (B := 2000000) (by omega) Y
 have : fk X Y * Y = Int.tmod (Int.tmod X Y + Y) Y - X := by rw [hk, ek, Int.mul_comm]
 rw [this]
 refine ⟨by omega, by omega, by omega, by omega⟩
theorem br_small {A B C D x y : Int} (hA : -1000000000 ≤ A ∧ A ≤ 1000000000) (hB : -1000000000 ≤ B ∧ B ≤ 1000000000) (hC : -1000000000 ≤ C ∧ C ≤ 1000000000) (hD : -1000000000 ≤ D ∧ D ≤ 1000000000) (hx : -1000 ≤ x ∧ x ≤ 1000) (hy : -1000 ≤ y ∧ y ≤ 1000) :
  br A B C D 0 0 x y = ⟨A * x + B * y, C * x + D * y⟩ := by
 have m1 := mul_bd hA hx
 have m2 := mul_bd hB hy
 have m3 := mul_bd hC hx
 have m4 := mul_bd hD hy
 unfold br
 rw [w64 (x := A * x) (by omega), w64 (x := B * y) (by omega), w64 (x := C * x) (by omega), w64 (x := D * y) (by omega), w64 (x := A * x + B * y) (by omega), w64 (x := C * x + D * y) (by omega), Int.add_zero, Int.add_zero, w64 (by omega), w64 (by omega)]
/-- What the frame is: the ways from the first corner, brought by what brings them to their frame. -/
theorem FrOK.made {l : List S_impl_Peg} (h : FrOK l) : ∃ A B C D : Int, Fr A B C D (vx l) (vy l) (wx l) (wy l) ∧ fr l = (List.range l.length).map fun i => (⟨A * ((pt l i).f0 - (pt l 0).f0) + B * ((pt l i).f1 - (pt l 0).f1), C * ((pt l i).f0 - (pt l 0).f0) + D * ((pt l i).f1 - (pt l 0).f1)⟩ : S_impl_Peg) := by
 obtain ⟨sa, sb, sc, sd⟩ := h.small
 have g := h.gpos
 have hl := h.lo
 have b1 := tdv_bd (x := -(vy l)) (B := 200) (by omega) (fg l)
 have b2 := tdv_bd (x := vx l) (B := 200) (by omega) (fg l)
 have ec : fc l = Int.tdiv (-(vy l)) (fg l) := by
  unfold fc
  rw [w64 (x := -(vy l)) (by omega), w64 (by omega)]
 have ed : fd l = Int.tdiv (vx l) (fg l) := by
  unfold fd
  rw [w64 (by omega)]
 have d1 := dv_eq (d := -(vy l)) g (by unfold fg gc; exact Int.dvd_neg.2 (Int.gcd_dvd_right _ _))
 have d2 := dv_eq (d := vx l) g (by unfold fg gc; exact Int.gcd_dvd_left _ _)
 rw [← ec] at d1 b1
 rw [← ed] at d2 b2
 -- the factors
 obtain ⟨z1, z2, z3⟩ := bz_start (a := vx l) (b := vy l) (by omega) (by omega)
 have hs := h.sgn1.1
 have huv : (uv (bl l)).1 * vx l + (uv (bl l)).2 * vy l = fg l ∧ -1000 ≤ (uv (bl l)).1 ∧ (uv (bl l)).1 ≤ 1000 ∧ -1000 ≤ (uv (bl l)).2 ∧ (uv (bl l)).2 ≤ 1000 := by
  change (bl l).1 = (bl l).2.1 * vx l + (bl l).2.2 * vy l at z1
  change (bl l).2.1.natAbs ≤ 1000 at z2
  change (bl l).2.2.natAbs ≤ 1000 at z3
  unfold ab at hs
  unfold uv
  split
  ·rename_i i
   rw [if_pos i] at hs
   show wrap64 (-(bl l).2.1) * vx l + wrap64 (-(bl l).2.2) * vy l = fg l ∧ -1000 ≤ wrap64 (-(bl l).2.1) ∧ wrap64 (-(bl l).2.1) ≤ 1000 ∧ -1000 ≤ wrap64 (-(bl l).2.2) ∧ wrap64 (-(bl l).2.2) ≤ 1000
   rw [w64 (x := -(bl l).2.1) (by omega), w64 (x := -(bl l).2.2) (by omega), Int.neg_mul, Int.neg_mul]
   omega
  ·rename_i i
   rw [if_neg i] at hs
   show (bl l).2.1 * vx l + (bl l).2.2 * vy l = fg l ∧ _
   omega
 obtain ⟨u0, u1, u2, u3, u4⟩ := huv
 generalize hu : (uv (bl l)).1 = u at *
 generalize hv : (uv (bl l)).2 = v at *
 have e3 : fth l = ⟨u * wx l + v * wy l, fc l * wx l + fd l * wy l⟩ := by
  unfold fth
  rw [hu, hv]
  exact br_small (by omega) (by omega) (by omega) (by omega) (by omega) (by omega)
 obtain ⟨t1, t2, t3⟩ := h.third
 have X1 := mul_bd (x := u) (y := wx l) (A := 1000) (B := 200) (by omega) (by omega)
 have X2 := mul_bd (x := v) (y := wy l) (A := 1000) (B := 200) (by omega) (by omega)
 have f0 : (fth l).f0 = u * wx l + v * wy l := by rw [e3]
 have f1 : (fth l).f1 = fc l * wx l + fd l * wy l := by rw [e3]
 -- both signs at once
 have key : ∀ (c d Y : Int), (-200 ≤ c ∧ c ≤ 200) → (-200 ≤ d ∧ d ≤ 200) → c * vx l + d * vy l = 0 → (u * d - v * c = 1 ∨ u * d - v * c = -1) → c * wx l + d * wy l = Y → 0 < Y → Y ≤ 80000 →
   ∃ A B : Int, Fr A B c d (vx l) (vy l) (wx l) (wy l) ∧ fin l c d (u * wx l + v * wy l) Y = (List.range l.length).map fun i => (⟨A * ((pt l i).f0 - (pt l 0).f0) + B * ((pt l i).f1 - (pt l 0).f1), c * ((pt l i).f0 - (pt l 0).f0) + d * ((pt l i).f1 - (pt l 0).f1)⟩ : S_impl_Peg) := by
  intro c d Y hc hd hz hdet hw hY hYb
  obtain ⟨k1, k2, k3, k4⟩ := fk_ok (X := u * wx l + v * wy l) hY (by omega) (by omega)
  have m1 := mul_bd (x := fk (u * wx l + v * wy l) Y) (y := c) (A := 4000000) (B := 200) ⟨k3, k4⟩ (by omega)
  have m2 := mul_bd (x := fk (u * wx l + v * wy l) Y) (y := d) (A := 4000000) (B := 200) ⟨k3, k4⟩ (by omega)
  have em : ∀ k : Int, u + k * c = u + k * c := fun _ => rfl
  refine ⟨u + fk (u * wx l + v * wy l) Y * c, v + fk (u * wx l + v * wy l) Y * d, ⟨?_, ?_, hz, by rw [hw]; exact hY, ?_, ?_⟩, ?_⟩
  ·have : (u + fk (u * wx l + v * wy l) Y * c) * d - (v + fk (u * wx l + v * wy l) Y * d) * c = u * d - v * c := by grind
   rw [this]
   exact hdet
  ·have : (u + fk (u * wx l + v * wy l) Y * c) * vx l + (v + fk (u * wx l + v * wy l) Y * d) * vy l = fg l + fk (u * wx l + v * wy l) Y * (c * vx l + d * vy l) := by rw [← u0]; grind
   rw [this, hz, Int.mul_zero, Int.add_zero]
   exact g
  ·have : (u + fk (u * wx l + v * wy l) Y * c) * wx l + (v + fk (u * wx l + v * wy l) Y * d) * wy l = (u * wx l + v * wy l) + fk (u * wx l + v * wy l) Y * (c * wx l + d * wy l) := by grind
   rw [this, hw]
   exact k1
  ·have : (u + fk (u * wx l + v * wy l) Y * c) * wx l + (v + fk (u * wx l + v * wy l) Y * d) * wy l = (u * wx l + v * wy l) + fk (u * wx l + v * wy l) Y * (c * wx l + d * wy l) := by grind
   rw [this, hw]
   exact k2
  ·unfold fin
   rw [hu, hv]
   refine List.map_congr_left fun i hi => ?_
   have hi := List.mem_range.1 hi
   have q0 := h.pegs 0 (by omega)
   have q1 := h.pegs i hi
   unfold Sm at q0 q1
   rw [w64 (x := fk _ Y * c) (by omega), w64 (x := fk _ Y * d) (by omega), w64 (x := u + _) (by omega), w64 (x := v + _) (by omega), w64 (x := (pt l i).f0 - (pt l 0).f0) (by omega), w64 (x := (pt l i).f1 - (pt l 0).f1) (by omega)]
   exact br_small (by omega) (by omega) (by omega) (by omega) (by omega) (by omega)
 have cz : fc l * vx l + fd l * vy l = 0 := by
  have : fg l * (fc l * vx l + fd l * vy l) = 0 := by
   have : fg l * (fc l * vx l + fd l * vy l) = (fg l * fc l) * vx l + (fg l * fd l) * vy l := by grind
   rw [this, d1, d2]
   grind
  rcases Int.mul_eq_zero.1 this with h | h
  ·omega
  ·exact h
 have cd : u * fd l - v * fc l = 1 := by
  have : fg l * (u * fd l - v * fc l) = fg l * 1 := by
   have : fg l * (u * fd l - v * fc l) = u * (fg l * fd l) - v * (fg l * fc l) := by grind
   rw [this, d1, d2, Int.mul_neg]
   omega
  exact Int.eq_of_mul_eq_mul_left (by omega) this
 unfold fr
 by_cases hs : (fth l).f1 < 0
 ·rw [if_pos hs, f0]
  have w1 : wrap64 (-(fc l)) = -(fc l) := w64 (by omega)
  have w2 : wrap64 (-(fd l)) = -(fd l) := w64 (by omega)
  have w3 : wrap64 (-(fth l).f1) = -(fth l).f1 := w64 (by omega)
  rw [w1, w2, w3]
  obtain ⟨A, B, F, e⟩ := key (-(fc l)) (-(fd l)) (-(fth l).f1) (by omega) (by omega) (by rw [Int.neg_mul, Int.neg_mul]; omega) (by rw [Int.mul_neg, Int.mul_neg]; omega) (by rw [f1, Int.neg_mul, Int.neg_mul]; omega) (by omega) (by omega)
  exact ⟨A, B, _, _, F, e⟩
 ·rw [if_neg hs, f0]
  obtain ⟨A, B, F, e⟩ := key (fc l) (fd l) (fth l).f1 (by omega) (by omega) cz (Or.inl cd) f1.symm (by omega) (by omega)
  exact ⟨A, B, _, _, F, e⟩
def dx (l : List S_impl_Peg) (i : Nat) : Int := (pt l i).f0 - (pt l 0).f0
def dy (l : List S_impl_Peg) (i : Nat) : Int := (pt l i).f1 - (pt l 0).f1
/-- A move's four numbers bring one list to another, from the first corners on. -/
def Brings (p o : List S_impl_Peg) (e f g h : Int) : Prop := (e * h - f * g = 1 ∨ e * h - f * g = -1) ∧ ∀ i, i < p.length → dx o i = e * dx p i + f * dy p i ∧ dy o i = g * dx p i + h * dy p i
/-- One frame: a move brings the one to the other. -/
theorem fr_iff {p o : List S_impl_Peg} (hp : FrOK p) (ho : FrOK o) (hl : p.length = o.length) : fr o = fr p ↔ ∃ e f g h : Int, Brings p o e f g h := by
 obtain ⟨A, B, C, D, F, ep⟩ := hp.made
 obtain ⟨A', B', C', D', F', eo⟩ := ho.made
 have h3 := hp.lo
 rw [ep, eo, ← hl]
 constructor
 ·intro e
  obtain ⟨δ, hδ, hδ2⟩ : ∃ δ : Int, δ = A' * D' - B' * C' ∧ δ * δ = 1 := ⟨_, rfl, by rcases F'.one with h | h <;> rw [h] <;> rfl⟩
  refine ⟨δ * (D' * A - B' * C), δ * (D' * B - B' * D), δ * (A' * C - C' * A), δ * (A' * D - C' * B), ?_, ?_⟩
  ·have : δ * (D' * A - B' * C) * (δ * (A' * D - C' * B)) - δ * (D' * B - B' * D) * (δ * (A' * C - C' * A)) = (δ * δ) * ((A' * D' - B' * C') * (A * D - B * C)) := by grind
   rw [this, hδ2, Int.one_mul]
   rcases F.one with h | h <;> rcases F'.one with h' | h' <;> rw [h, h'] <;> simp
  ·intro i hi
   have ei := congrArg (fun l => pt l i) e
   simp only [rmap_pt hi, S_impl_Peg.mk.injEq] at ei
   obtain ⟨e1, e2⟩ := ei
   change A' * dx o i + B' * dy o i = A * dx p i + B * dy p i at e1
   change C' * dx o i + D' * dy o i = C * dx p i + D * dy p i at e2
   refine ⟨?_, ?_⟩
   ·have : δ * (D' * A - B' * C) * dx p i + δ * (D' * B - B' * D) * dy p i = δ * (D' * (A * dx p i + B * dy p i) - B' * (C * dx p i + D * dy p i)) := by grind
    rw [this, ← e1, ← e2]
    have : δ * (D' * (A' * dx o i + B' * dy o i) - B' * (C' * dx o i + D' * dy o i)) = δ * (A' * D' - B' * C') * dx o i := by grind
    rw [this, ← hδ, hδ2, Int.one_mul]
   ·have : δ * (A' * C - C' * A) * dx p i + δ * (A' * D - C' * B) * dy p i = δ * (A' * (C * dx p i + D * dy p i) - C' * (A * dx p i + B * dy p i)) := by grind
    rw [this, ← e1, ← e2]
    have : δ * (A' * (C' * dx o i + D' * dy o i) - C' * (A' * dx o i + B' * dy o i)) = δ * (A' * D' - B' * C') * dy o i := by grind
    rw [this, ← hδ, hδ2, Int.one_mul]
 ·rintro ⟨e, f, g, h, N, hb⟩
  obtain ⟨v1, v2⟩ := hb 1 (by omega)
  obtain ⟨w1, w2⟩ := hb 2 (by omega)
  have F2 : Fr A' B' C' D' (e * vx p + f * vy p) (g * vx p + h * vy p) (e * wx p + f * wy p) (g * wx p + h * wy p) := by
   rw [← show vx o = e * vx p + f * vy p from v1, ← show vy o = g * vx p + h * vy p from v2, ← show wx o = e * wx p + f * wy p from w1, ← show wy o = g * wx p + h * wy p from w2]
   exact F'
  obtain ⟨k1, k2, k3, k4⟩ := F.unique N F2
  refine List.map_congr_left fun i hi => ?_
  have hi := List.mem_range.1 hi
  obtain ⟨d1, d2⟩ := hb i hi
  change (⟨A' * dx o i + B' * dy o i, C' * dx o i + D' * dy o i⟩ : S_impl_Peg) = ⟨A * dx p i + B * dy p i, C * dx p i + D * dy p i⟩
  rw [d1, d2, ← k1, ← k2, ← k3, ← k4]
  exact peg_ext (by show _ = _; grind) (by show _ = _; grind)
/-- The four numbers are quotients of what the first three corners tell. -/
theorem Brings.nums {p o : List S_impl_Peg} {e f g h : Int} (hb : Brings p o e f g h) (h3 : 3 ≤ p.length) :
  vx o * wy p - wx o * vy p = e * (vx p * wy p - vy p * wx p) ∧ wx o * vx p - vx o * wx p = f * (vx p * wy p - vy p * wx p) ∧ vy o * wy p - wy o * vy p = g * (vx p * wy p - vy p * wx p) ∧ wy o * vx p - vy o * wx p = h * (vx p * wy p - vy p * wx p) := by
 obtain ⟨v1, v2⟩ := hb.2 1 (by omega)
 obtain ⟨w1, w2⟩ := hb.2 2 (by omega)
 change vx o = e * vx p + f * vy p at v1
 change vy o = g * vx p + h * vy p at v2
 change wx o = e * wx p + f * wy p at w1
 change wy o = g * wx p + h * wy p at w2
 rw [v1, v2, w1, w2]
 refine ⟨?_, ?_, ?_, ?_⟩ <;> grind

end Go.Proofs.Ytphkphjddkjabaa.B
