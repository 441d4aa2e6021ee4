-- thin
/- The law FnExactInCircle holds: for all arguments the program's InCircle answers as the reference's, and the arguments are left as they were. No condition. -/
import Derived.Test.YtfihohongkfibaaX0
import Derived.Test.YtfihohongkfibaaX2
import Derived.Test.YtfihohongkfibaaX8
import Derived.Test.YtfihohongkfibaaX11
import Derived.Test.YtfihohongkfibaaX20
import Derived.Test.YtfihohongkfibaaX21
import Derived.Test.YtfihohongkfibaaX22
import Derived.Test.YtfihohongkfibaaBBase
import Derived.Test.YtfihohongkfibaaBCore
import Derived.Test.YtfihohongkfibaaBPoly
import Derived.Test.YtfihohongkfibaaBAsk
import Derived.Test.YtfihohongkfibaaBArea
import Derived.Test.YtfihohongkfibaaBThree
import Derived.Test.YtfihohongkfibaaBThreeArea
import Derived.Test.YtfihohongkfibaaBSteps
import Derived.Test.YtfihohongkfibaaBCircle
namespace Go.Proofs.Ytfihohongkfibaa.Pure
open Go.RowKit Go.Proofs.Ytfihohongkfibaa.XW Go.Proofs.Ytfihohongkfibaa.X Go.Proofs.YtfihohongkfibaaW.PrintWords Go.Proofs.YtfihohongkfibaaW.PrintLast Go.Proofs.Ytfihohongkfibaa.B
set_option linter.unusedVariables false
set_option linter.unusedSimpArgs false
set_option maxRecDepth 20000

def sqd (a p : S_impl_Peg) : Int := (a.f0 - p.f0) * (a.f0 - p.f0) + (a.f1 - p.f1) * (a.f1 - p.f1)
def crd (a b p : S_impl_Peg) : Int := (a.f0 - p.f0) * (b.f1 - p.f1) - (a.f1 - p.f1) * (b.f0 - p.f0)
/-- The sum that tells on which side of the circle a peg lies. -/
def inc (l : List S_impl_Peg) (p : S_impl_Peg) : Int := sqd (pt l 0) p * crd (pt l 1) (pt l 2) p + sqd (pt l 1) p * crd (pt l 2) (pt l 0) p + sqd (pt l 2) p * crd (pt l 0) (pt l 1) p
noncomputable def ans_InCircle (l : List S_impl_Peg) (x y : Int) : Int × Bool := if three l = true then (if Sm 40 ⟨x, y⟩ then (sgn (inc l ⟨x, y⟩) * sgn (ar l), true) else (0, false)) else (0, false)
theorem sgn_scale {k x y : Int} (hk : 0 < k) (h : k * x = y) : sgn x = sgn y := by
 rcases Int.lt_trichotomy x 0 with c | c | c
 ·have := Int.mul_neg_of_pos_of_neg hk c
  unfold sgn
  rw [if_neg (by omega), if_pos c, if_neg (by omega), if_pos (by omega)]
 ·subst c
  rw [Int.mul_zero] at h
  rw [h]
 ·have := Int.mul_pos hk c
  unfold sgn
  rw [if_pos (by omega), if_pos (by omega)]
theorem sgn_prod (a b : Int) : sgn (4 * (a * b)) = sgn b * sgn a := by
 have e : ∀ x : Int, (0 < x ∧ sgn x = 1) ∨ (x = 0 ∧ sgn x = 0) ∨ (x < 0 ∧ sgn x = -1) := by
  intro x
  unfold sgn
  rcases Int.lt_trichotomy x 0 with c | c | c
  ·exact Or.inr (Or.inr ⟨c, by rw [if_neg (by omega), if_pos c]⟩)
  ·exact Or.inr (Or.inl ⟨c, by rw [if_neg (by omega), if_neg (by omega)]⟩)
  ·exact Or.inl ⟨c, if_pos c⟩
 rcases e a with ⟨ha, ea⟩ | ⟨ha, ea⟩ | ⟨ha, ea⟩ <;> rcases e b with ⟨hb, eb⟩ | ⟨hb, eb⟩ | ⟨hb, eb⟩ <;> rw [ea, eb]
 ·have := Int.mul_pos ha hb
  unfold sgn
  rw [if_pos (by omega)]
  rfl
 ·rw [hb, Int.mul_zero]
  rfl
 ·have := Int.mul_neg_of_pos_of_neg ha hb
  unfold sgn
  rw [if_neg (by omega), if_pos (by omega)]
  rfl
 ·rw [ha, Int.zero_mul]
  rfl
 ·rw [ha, Int.zero_mul]
  rfl
 ·rw [ha, Int.zero_mul]
  rfl
 ·have := Int.mul_neg_of_neg_of_pos ha hb
  unfold sgn
  rw [if_neg (by omega), if_pos (by omega)]
  rfl
 ·rw [hb, Int.mul_zero]
  rfl
 ·have := Int.mul_pos_of_neg_of_neg ha hb
  unfold sgn
  rw [if_pos (by omega)]
  rfl
theorem inc_rel (bx by_ cx cy ux uy : Int) : (-ux * -ux + -uy * -uy) * ((bx - ux) * (cy - uy) - (by_ - uy) * (cx - ux)) + ((bx - ux) * (bx - ux) + (by_ - uy) * (by_ - uy)) * ((cx - ux) * -uy - (cy - uy) * -ux) + ((cx - ux) * (cx - ux) + (cy - uy) * (cy - uy)) * (-ux * (by_ - uy) - -uy * (bx - ux)) =
  ux * (cy * (bx * bx + by_ * by_) - by_ * (cx * cx + cy * cy)) + uy * (bx * (cx * cx + cy * cy) - cx * (bx * bx + by_ * by_)) - (bx * cy - by_ * cx) * (ux * ux + uy * uy) := by
 grind
theorem far_near (x0 y0 D ux uy t i : Int) (hD : D = 2 * t) (hi : i = ux * x0 + uy * y0 - t * (ux * ux + uy * uy)) :
  (-x0 * -x0 + -y0 * -y0) - ((ux * D - x0) * (ux * D - x0) + (uy * D - y0) * (uy * D - y0)) = 4 * (t * i) := by
 subst hD hi
 grind
section
variable {l : List S_impl_Peg} (h3 : l.length = 3) (ok : Poly l)
include h3 in
theorem key (p : S_impl_Peg) : (((pt l 0).f0 * ccD l - ccX l) * ((pt l 0).f0 * ccD l - ccX l) + ((pt l 0).f1 * ccD l - ccY l) * ((pt l 0).f1 * ccD l - ccY l)) - ((p.f0 * ccD l - ccX l) * (p.f0 * ccD l - ccX l) + (p.f1 * ccD l - ccY l) * (p.f1 * ccD l - ccY l)) = 4 * (ar l * inc l p) := by
 have eD : ccD l = 2 * (((pt l 1).f0 - (pt l 0).f0) * ((pt l 2).f1 - (pt l 0).f1) - ((pt l 1).f1 - (pt l 0).f1) * ((pt l 2).f0 - (pt l 0).f0)) := by
  unfold ccD
  rw [ar_three h3]
  rfl
 have eA : ar l = ((pt l 1).f0 - (pt l 0).f0) * ((pt l 2).f1 - (pt l 0).f1) - ((pt l 1).f1 - (pt l 0).f1) * ((pt l 2).f0 - (pt l 0).f0) := by
  rw [ar_three h3]
  rfl
 have eX : ccX l = ((pt l 2).f1 - (pt l 0).f1) * (((pt l 1).f0 - (pt l 0).f0) * ((pt l 1).f0 - (pt l 0).f0) + ((pt l 1).f1 - (pt l 0).f1) * ((pt l 1).f1 - (pt l 0).f1)) - ((pt l 1).f1 - (pt l 0).f1) * (((pt l 2).f0 - (pt l 0).f0) * ((pt l 2).f0 - (pt l 0).f0) + ((pt l 2).f1 - (pt l 0).f1) * ((pt l 2).f1 - (pt l 0).f1)) + (pt l 0).f0 * ccD l := by
  rw [eD]
  unfold ccX sq0
  grind
 have eY : ccY l = ((pt l 1).f0 - (pt l 0).f0) * (((pt l 2).f0 - (pt l 0).f0) * ((pt l 2).f0 - (pt l 0).f0) + ((pt l 2).f1 - (pt l 0).f1) * ((pt l 2).f1 - (pt l 0).f1)) - ((pt l 2).f0 - (pt l 0).f0) * (((pt l 1).f0 - (pt l 0).f0) * ((pt l 1).f0 - (pt l 0).f0) + ((pt l 1).f1 - (pt l 0).f1) * ((pt l 1).f1 - (pt l 0).f1)) + (pt l 0).f1 * ccD l := by
  rw [eD]
  unfold ccY sq0
  grind
 have r := inc_rel ((pt l 1).f0 - (pt l 0).f0) ((pt l 1).f1 - (pt l 0).f1) ((pt l 2).f0 - (pt l 0).f0) ((pt l 2).f1 - (pt l 0).f1) (p.f0 - (pt l 0).f0) (p.f1 - (pt l 0).f1)
 have ei : inc l p = (-(p.f0 - (pt l 0).f0) * -(p.f0 - (pt l 0).f0) + -(p.f1 - (pt l 0).f1) * -(p.f1 - (pt l 0).f1)) * (((pt l 1).f0 - (pt l 0).f0 - (p.f0 - (pt l 0).f0)) * ((pt l 2).f1 - (pt l 0).f1 - (p.f1 - (pt l 0).f1)) - ((pt l 1).f1 - (pt l 0).f1 - (p.f1 - (pt l 0).f1)) * ((pt l 2).f0 - (pt l 0).f0 - (p.f0 - (pt l 0).f0))) + (((pt l 1).f0 - (pt l 0).f0 - (p.f0 - (pt l 0).f0)) * ((pt l 1).f0 - (pt l 0).f0 - (p.f0 - (pt l 0).f0)) + ((pt l 1).f1 - (pt l 0).f1 - (p.f1 - (pt l 0).f1)) * ((pt l 1).f1 - (pt l 0).f1 - (p.f1 - (pt l 0).f1))) * (((pt l 2).f0 - (pt l 0).f0 - (p.f0 - (pt l 0).f0)) * -(p.f1 - (pt l 0).f1) - ((pt l 2).f1 - (pt l 0).f1 - (p.f1 - (pt l 0).f1)) * -(p.f0 - (pt l 0).f0)) + (((pt l 2).f0 - (pt l 0).f0 - (p.f0 - (pt l 0).f0)) * ((pt l 2).f0 - (pt l 0).f0 - (p.f0 - (pt l 0).f0)) + ((pt l 2).f1 - (pt l 0).f1 - (p.f1 - (pt l 0).f1)) * ((pt l 2).f1 - (pt l 0).f1 - (p.f1 - (pt l 0).f1))) * (-(p.f0 - (pt l 0).f0) * ((pt l 1).f1 - (pt l 0).f1 - (p.f1 - (pt l 0).f1)) - -(p.f1 - (pt l 0).f1) * ((pt l 1).f0 - (pt l 0).f0 - (p.f0 - (pt l 0).f0))) := by
  unfold inc sqd crd
  simp only [show ∀ a b c : Int, a - b - (c - b) = a - c from fun a b c => by omega, show ∀ a b : Int, -(a - b) = b - a from fun a b => by omega]
 rw [r] at ei
 rw [eA, ← far_near _ _ (ccD l) _ _ _ _ eD ei]
 have f1 : ∀ q x0 d : Int, q * d - (x0 + q * d) = -x0 := fun q x0 d => by omega
 have f2 : ∀ q a x0 d : Int, q * d - (x0 + a * d) = (q - a) * d - x0 := fun q a x0 d => by rw [Int.sub_mul]; omega
 rw [eX, eY, f1, f1, f2, f2]
theorem dvd_pm {g x s : Int} (h : g ∣ x) (hs : s = 1 ∨ s = -1) : g * s ∣ x := by
 rcases hs with rfl | rfl
 ·rw [Int.mul_one]
  exact h
 ·rw [Int.mul_neg, Int.mul_one]
  exact Int.neg_dvd.2 h
include h3 ok in
theorem circ_at : ∃ e x y d : Int, e ≠ 0 ∧ e * x = ccX l ∧ e * y = ccY l ∧ e * d = ccD l ∧ circ l = (x, y, d, true) ∧ (-768000 ≤ x ∧ x ≤ 768000) ∧ (-768000 ≤ y ∧ y ≤ 768000) ∧ (-64000 ≤ d ∧ d ≤ 64000) := by
 obtain ⟨bX, bY, bD, hD, hG, hG2⟩ := c_bd h3 ok
 have hs : sgn (ccD l) = 1 ∨ sgn (ccD l) = -1 := by
  unfold sgn
  by_cases c1 : ccD l > 0
  ·rw [if_pos c1]
   exact Or.inl rfl
  ·rw [if_neg c1, if_pos (by omega)]
   exact Or.inr rfl
 have he : ccG l * sgn (ccD l) ≠ 0 := by rcases hs with e | e <;> rw [e] <;> omega
 have g0 : gc (ccX l) (ccY l) ∣ ccX l := Int.gcd_dvd_left _ _
 have g1 : gc (ccX l) (ccY l) ∣ ccY l := Int.gcd_dvd_right _ _
 have g2 : ccG l ∣ gc (ccX l) (ccY l) := Int.gcd_dvd_left _ _
 have g3 : ccG l ∣ ccD l := Int.gcd_dvd_right _ _
 have tb : ∀ x B : Int, (-B ≤ x ∧ x ≤ B) → -B ≤ Int.tdiv x (ccG l * sgn (ccD l)) ∧ Int.tdiv x (ccG l * sgn (ccD l)) ≤ B := by
  intro x B h
  have h1 : (Int.tdiv x (ccG l * sgn (ccD l))).natAbs ≤ x.natAbs := by
   rw [Int.natAbs_tdiv]
   exact Nat.div_le_self _ _
  omega
 have t1 := tb _ _ bX
 have t2 := tb _ _ bY
 have t3 := tb _ _ bD
 refine ⟨ccG l * sgn (ccD l), Int.tdiv (ccX l) (ccG l * sgn (ccD l)), Int.tdiv (ccY l) (ccG l * sgn (ccD l)), Int.tdiv (ccD l) (ccG l * sgn (ccD l)), he, Int.mul_tdiv_cancel' (dvd_pm (Int.dvd_trans g2 g0) hs), Int.mul_tdiv_cancel' (dvd_pm (Int.dvd_trans g2 g1) hs), Int.mul_tdiv_cancel' (dvd_pm g3 hs), ?_, t1, t2, t3⟩
 unfold circ
 rw [w64 (by omega), w64 (by omega), w64 (by omega)]
theorem lin_bd {q d x : Int} (hq : -40 ≤ q ∧ q ≤ 40) (hd : -64000 ≤ d ∧ d ≤ 64000) (hx : -768000 ≤ x ∧ x ≤ 768000) : (-2560000 ≤ q * d ∧ q * d ≤ 2560000) ∧ (-3328000 ≤ q * d - x ∧ q * d - x ≤ 3328000) ∧ -11075584000000 ≤ (q * d - x) * (q * d - x) ∧ (q * d - x) * (q * d - x) ≤ 11075584000000 := by
 have m := mul_bd (A := 40) (B := 64000) hq hd
 have b : -3328000 ≤ q * d - x ∧ q * d - x ≤ 3328000 := by omega
 have m2 := mul_bd (A := 3328000) (B := 3328000) b b
 omega
theorem sq_wrap {q d x : Int} (hq : -40 ≤ q ∧ q ≤ 40) (hd : -64000 ≤ d ∧ d ≤ 64000) (hx : -768000 ≤ x ∧ x ≤ 768000) : wrap64 (wrap64 (wrap64 (q * d) - x) * wrap64 (wrap64 (q * d) - x)) = (q * d - x) * (q * d - x) := by
 obtain ⟨a, b, c, e⟩ := lin_bd hq hd hx
 rw [w64 (x := q * d) (by omega), w64 (x := q * d - x) (by omega), w64 (by omega)]
include h3 ok in
theorem ev_spec_in {x y : Int} (hp : Sm 40 ⟨x, y⟩) : Ev (fun k => spec_InCircle.j0 k l false x y) (sgn (inc l ⟨x, y⟩) * sgn (ar l), true) := by
 refine Ev.succ ?_
 obtain ⟨e, cx, cy, d, he, ex, ey, ed, ec, bx, by_, bd⟩ := circ_at h3 ok
 have hc := ev_spec_CircleOfThree l
 unfold ans_CircleOfThree at hc
 rw [if_pos (three_iff.2 ⟨h3, ok⟩), ec] at hc
 have p0 := ok.pegs 0 (by omega)
 unfold Sm at p0 hp
 simp only at hp
 simp only [spec_InCircle.j0, Bool.false_eq_true, if_false]
 refine Ev.bind hc ?_
 simp (disch := omega) only [if_pos, rd0]
 have q0 := sq_wrap (q := (pt l 0).f0) (d := d) (x := cx) (by omega) bd bx
 have q1 := sq_wrap (q := (pt l 0).f1) (d := d) (x := cy) (by omega) bd by_
 have q2 := sq_wrap (q := x) (d := d) (x := cx) (by omega) bd bx
 have q3 := sq_wrap (q := y) (d := d) (x := cy) (by omega) bd by_
 obtain ⟨-, -, r0⟩ := lin_bd (q := (pt l 0).f0) (d := d) (x := cx) (by omega) bd bx
 obtain ⟨-, -, r1⟩ := lin_bd (q := (pt l 0).f1) (d := d) (x := cy) (by omega) bd by_
 obtain ⟨-, -, r2⟩ := lin_bd (q := x) (d := d) (x := cx) (by omega) bd bx
 obtain ⟨-, -, r3⟩ := lin_bd (q := y) (d := d) (x := cy) (by omega) bd by_
 rw [q0, q1, q2, q3]
 have k := key h3 ⟨x, y⟩
 simp only at k
 rw [← ex, ← ey, ← ed] at k
 have pull : ∀ q z : Int, (q * (e * d) - e * z) * (q * (e * d) - e * z) = e * e * ((q * d - z) * (q * d - z)) := fun q z => by
  rw [show q * (e * d) - e * z = e * (q * d - z) by rw [Int.mul_sub]; rw [Int.mul_left_comm]]
  rw [Int.mul_assoc, Int.mul_assoc, Int.mul_left_comm (q * d - z)]
 rw [pull, pull, pull, pull, ← Int.mul_add, ← Int.mul_add, ← Int.mul_sub] at k
 have hee : 0 < e * e := by
  rcases Int.lt_trichotomy e 0 with c | c | c
  ·exact Int.mul_pos_of_neg_of_neg c c
  ·exact absurd c he
  ·exact Int.mul_pos c c
 have hs := sgn_scale hee k
 rw [sgn_prod] at hs
 rw [w64 (x := (_ * _) + (_ * _)) (by omega), w64 (x := (x * d - cx) * (x * d - cx) + (y * d - cy) * (y * d - cy)) (by omega), w64 (by omega)]
 simp only [spec_sign_eq, Option.bind_some, hs]
 exact Ev.now _
theorem dif_bd {a p : S_impl_Peg} (ha : Sm 40 a) (hp : Sm 40 p) : (-80 ≤ a.f0 - p.f0 ∧ a.f0 - p.f0 ≤ 80) ∧ (-80 ≤ a.f1 - p.f1 ∧ a.f1 - p.f1 ≤ 80) := by
 unfold Sm at *
 omega
theorem sqd_eq {a p : S_impl_Peg} (ha : Sm 40 a) (hp : Sm 40 p) : impl_Peg_square.f (a.f0 - p.f0) (a.f1 - p.f1) = some (sqd a p) ∧ -12800 ≤ sqd a p ∧ sqd a p ≤ 12800 := by
 obtain ⟨d0, d1⟩ := dif_bd ha hp
 have h1 := mul_bd (A := 80) (B := 80) d0 d0
 have h2 := mul_bd (A := 80) (B := 80) d1 d1
 unfold impl_Peg_square.f sqd
 rw [w64 (x := (a.f0 - p.f0) * (a.f0 - p.f0)) (by omega), w64 (x := (a.f1 - p.f1) * (a.f1 - p.f1)) (by omega), w64 (by omega)]
 exact ⟨rfl, by omega⟩
theorem crd_eq {a b p : S_impl_Peg} (ha : Sm 40 a) (hb : Sm 40 b) (hp : Sm 40 p) : impl_cross.f (a.f0 - p.f0) (a.f1 - p.f1) (b.f0 - p.f0) (b.f1 - p.f1) = some (crd a b p) ∧ -12800 ≤ crd a b p ∧ crd a b p ≤ 12800 := by
 obtain ⟨d0, d1⟩ := dif_bd ha hp
 obtain ⟨e0, e1⟩ := dif_bd hb hp
 have h1 := mul_bd (A := 80) (B := 80) d0 e1
 have h2 := mul_bd (A := 80) (B := 80) d1 e0
 unfold impl_cross.f crd
 rw [w64 (x := (a.f0 - p.f0) * (b.f1 - p.f1)) (by omega), w64 (x := (a.f1 - p.f1) * (b.f0 - p.f0)) (by omega), w64 (by omega)]
 exact ⟨rfl, by omega⟩
include h3 ok in
theorem ev_impl_in {x y : Int} (hp : Sm 40 ⟨x, y⟩) : Ev (fun k => impl_InCircle.j0 k l false x y) (sgn (inc l ⟨x, y⟩) * sgn (ar l), true) := by
 refine Ev.succ ?_
 simp only [impl_InCircle.j0, Bool.false_eq_true, if_false]
 have p0 := ok.pegs 0 (by omega)
 have p1 := ok.pegs 1 (by omega)
 have p2 := ok.pegs 2 (by omega)
 obtain ⟨q0, s0⟩ := sqd_eq p0 hp
 obtain ⟨q1, s1⟩ := sqd_eq p1 hp
 obtain ⟨q2, s2⟩ := sqd_eq p2 hp
 obtain ⟨c0, t0⟩ := crd_eq p1 p2 hp
 obtain ⟨c1, t1⟩ := crd_eq p2 p0 hp
 obtain ⟨c2, t2⟩ := crd_eq p0 p1 hp
 obtain ⟨u0, v0⟩ := dif_bd p0 hp
 obtain ⟨u1, v1⟩ := dif_bd p1 hp
 obtain ⟨u2, v2⟩ := dif_bd p2 hp
 simp only at q0 q1 q2 c0 c1 c2 u0 v0 u1 v1 u2 v2
 have m0 := mul_bd (A := 12800) (B := 12800) s0 t0
 have m1 := mul_bd (A := 12800) (B := 12800) s1 t1
 have m2 := mul_bd (A := 12800) (B := 12800) s2 t2
 have n0 : nx l.length 0 = 1 := by unfold nx; rw [if_neg (by omega)]
 have n1 : nx l.length 1 = 2 := by unfold nx; rw [if_neg (by omega)]
 have n2 : nx l.length 2 = 0 := by unfold nx; rw [if_pos (by omega)]
 have a0 := at_next l 0 (by omega) (by omega)
 have a0' := at_next2 l 0 (by omega) (by omega) (by omega)
 have a1 := at_next l 1 (by omega) (by omega)
 have a1' := at_next2 l 1 (by omega) (by omega) (by omega)
 have a2 := at_next l 2 (by omega) (by omega)
 have a2' := at_next2 l 2 (by omega) (by omega) (by omega)
 simp only [n0, n1, n2] at a0 a0' a1 a1' a2 a2'
 have ws : ∀ i : Nat, i < 3 → wrap64 ((i : Int) + 1) = (i : Int) + 1 ∧ wrap64 ((i : Int) + 2) = (i : Int) + 2 := fun i hi => ⟨w64 (by omega), w64 (by omega)⟩
 have W0 := w64 (x := (pt l 0).f0 - x) (by omega)
 have W1 := w64 (x := (pt l 0).f1 - y) (by omega)
 have W2 := w64 (x := (pt l 1).f0 - x) (by omega)
 have W3 := w64 (x := (pt l 1).f1 - y) (by omega)
 have W4 := w64 (x := (pt l 2).f0 - x) (by omega)
 have W5 := w64 (x := (pt l 2).f1 - y) (by omega)
 have W6 := w64 (x := sqd (pt l 0) ⟨x, y⟩ * crd (pt l 1) (pt l 2) ⟨x, y⟩) (by omega)
 have W7 := w64 (x := sqd (pt l 1) ⟨x, y⟩ * crd (pt l 2) (pt l 0) ⟨x, y⟩) (by omega)
 have W8 := w64 (x := sqd (pt l 2) ⟨x, y⟩ * crd (pt l 0) (pt l 1) ⟨x, y⟩) (by omega)
 have W9 := w64 (x := 0 + sqd (pt l 0) ⟨x, y⟩ * crd (pt l 1) (pt l 2) ⟨x, y⟩) (by omega)
 have WA := w64 (x := 0 + sqd (pt l 0) ⟨x, y⟩ * crd (pt l 1) (pt l 2) ⟨x, y⟩ + sqd (pt l 1) ⟨x, y⟩ * crd (pt l 2) (pt l 0) ⟨x, y⟩) (by omega)
 have WB := w64 (x := 0 + sqd (pt l 0) ⟨x, y⟩ * crd (pt l 1) (pt l 2) ⟨x, y⟩ + sqd (pt l 1) ⟨x, y⟩ * crd (pt l 2) (pt l 0) ⟨x, y⟩ + sqd (pt l 2) ⟨x, y⟩ * crd (pt l 0) (pt l 1) ⟨x, y⟩) (by omega)
 show Ev (fun k => impl_InCircle.l0 k l 0 l.length ((0 : Nat) : Int) x y) _
 refine Ev.succ ?_
 simp (disch := omega) only [impl_InCircle.l0, if_pos, rd_pt, ws 0 (by omega), a0, a0', Option.bind_some, impl_Peg_less.f, W0, W1, W2, W3, W4, W5, q0, c0, W6, W9]
 rw [show ((0 : Nat) : Int) + 1 = ((1 : Nat) : Int) from rfl]
 refine Ev.succ ?_
 simp (disch := omega) only [impl_InCircle.l0, if_pos, rd_pt, ws 1 (by omega), a1, a1', Option.bind_some, impl_Peg_less.f, W0, W1, W2, W3, W4, W5, q1, c1, W7, WA]
 rw [show ((1 : Nat) : Int) + 1 = ((2 : Nat) : Int) from rfl]
 refine Ev.succ ?_
 simp (disch := omega) only [impl_InCircle.l0, if_pos, rd_pt, ws 2 (by omega), a2, a2', Option.bind_some, impl_Peg_less.f, W0, W1, W2, W3, W4, W5, q2, c2, W8, WB]
 rw [show ((2 : Nat) : Int) + 1 = ((3 : Nat) : Int) from rfl]
 refine Ev.succ ?_
 simp (disch := omega) only [impl_InCircle.l0, if_neg, impl_sign_eq, Option.bind_some]
 refine Ev.bind ok.area ?_
 refine Ev.some ?_
 have ei : 0 + sqd (pt l 0) ⟨x, y⟩ * crd (pt l 1) (pt l 2) ⟨x, y⟩ + sqd (pt l 1) ⟨x, y⟩ * crd (pt l 2) (pt l 0) ⟨x, y⟩ + sqd (pt l 2) ⟨x, y⟩ * crd (pt l 0) (pt l 1) ⟨x, y⟩ = inc l ⟨x, y⟩ := by
  unfold inc
  omega
 have sb := sgn_mul_bd (inc l ⟨x, y⟩) (ar l)
 rw [ei, w64 (by omega)]
end
theorem ev_spec_InCircle (l : List S_impl_Peg) (x y : Int) : Ev (fun k => spec_InCircle.f k l x y) (ans_InCircle l x y) := by
 unfold spec_InCircle.f ans_InCircle
 refine ask3S l (fun h3 ok => ?_) ?_
 ·have e : spec_pgIs.f x y = some (decide (Sm 40 ⟨x, y⟩)) := is_peg_eq ⟨x, y⟩
  simp only [if_true, e, Option.bind_some]
  by_cases c : Sm 40 ⟨x, y⟩
  ·simp only [c, decide_true, Bool.not_true, if_true]
   exact ev_spec_in h3 ok c
  ·simp only [c, decide_false, Bool.not_false, if_false]
   refine Ev.succ ?_
   simp only [spec_InCircle.j0, if_true]
   exact Ev.now _
 ·simp only [Bool.false_eq_true, if_false]
  refine Ev.succ ?_
  simp only [spec_InCircle.j0, if_true]
  exact Ev.now _
theorem ev_impl_InCircle (l : List S_impl_Peg) (x y : Int) : Ev (fun k => impl_InCircle.f k l x y) (ans_InCircle l x y) := by
 unfold impl_InCircle.f ans_InCircle
 refine ask3I l (fun h3 ok => ?_) ?_
 ·have e : impl_IsPeg.f x y = some (decide (Sm 40 ⟨x, y⟩)) := is_peg_impl ⟨x, y⟩
  simp only [if_true, e, Option.bind_some]
  by_cases c : Sm 40 ⟨x, y⟩
  ·simp only [c, decide_true, Bool.not_true, if_true]
   exact ev_impl_in h3 ok c
  ·simp only [c, decide_false, Bool.not_false, if_false]
   refine Ev.succ ?_
   simp only [impl_InCircle.j0, if_true]
   exact Ev.now _
 ·simp only [Bool.false_eq_true, if_false]
  refine Ev.succ ?_
  simp only [impl_InCircle.j0, if_true]
  exact Ev.now _
theorem FnExactInCircle : laws_FnExactInCircle.Pure := by
 intro l0 x1 y1 hl0 hx1 hy1
 have hl0 := hl0.1
 refine Ev.rounds ?_
 unfold laws_FnExactInCircle.f
 rw [szPegS_eq l0 hl0]
 simp only [Option.bind_some]
 by_cases gl0 : 1048576 < l0.length
 ·simp only [if_pos gl0]
  exact Ev.now _
 simp only [if_neg gl0]
 simp (disch := omega) only [if_neg]
 have el0 : l0.length ≤ 1048576 := by omega
 obtain ⟨R, hR⟩ : ∃ R, R = ans_InCircle (toP l0) x1 y1 := ⟨_, rfl⟩
 have hS := ev_spec_InCircle (toP l0) x1 y1
 have hM := ev_impl_InCircle (toP l0) x1 y1
 rw [← hR] at hS hM
 repeat (first | exact Ev.now _ | refine Ev.bind (ev_toPegS l0 el0) ?_ | refine Ev.bind hS ?_ | refine Ev.bind hM ?_ | refine Ev.bind (ev_eqPegS (toP l0) (by rw [toP_length]; omega)) ?_ | simp only [eq_self, if_true, bne_self_eq_false, Bool.false_eq_true, if_false, Option.bind_some, laws_toPeg.f] | simp (disch := omega) only [if_neg, if_pos] | (refine Ev.succ ?_; simp only [laws_FnExactInCircle.j0, Bool.false_eq_true, if_false]))

end Go.Proofs.Ytfihohongkfibaa.Pure
