-- thin
/- The law FnExactCircleOfThree holds: for all arguments the program's CircleOfThree answers as the reference's, and the arguments are left as they were. No condition. -/
import Derived.Test.YtiacfkilmknldaaX0
import Derived.Test.YtiacfkilmknldaaX7
import Derived.Test.YtiacfkilmknldaaX35
import Derived.Test.YtiacfkilmknldaaX38
import Derived.Test.YtiacfkilmknldaaX39
import Derived.Test.YtiacfkilmknldaaX40
import Derived.Test.YtiacfkilmknldaaBBase
import Derived.Test.YtiacfkilmknldaaBCore
import Derived.Test.YtiacfkilmknldaaBPoly
import Derived.Test.YtiacfkilmknldaaBAsk
import Derived.Test.YtiacfkilmknldaaBArea
import Derived.Test.YtiacfkilmknldaaBThree
import Derived.Test.YtiacfkilmknldaaBThreeArea
import Derived.Test.YtiacfkilmknldaaBSteps
namespace Go.Proofs.Ytiacfkilmknldaa.Pure
open Go.RowKit Go.Proofs.Ytiacfkilmknldaa.XW Go.Proofs.Ytiacfkilmknldaa.X Go.Proofs.YtiacfkilmknldaaW.PrintWords Go.Proofs.YtiacfkilmknldaaW.PrintLast Go.Proofs.Ytiacfkilmknldaa.B
set_option linter.unusedVariables false
set_option linter.unusedSimpArgs false
set_option maxRecDepth 20000

def sq0 (p : S_impl_Peg) : Int := p.f0 * p.f0 + p.f1 * p.f1
def cX (l : List S_impl_Peg) : Int := sq0 (pt l 0) * ((pt l 1).f1 - (pt l 2).f1) + sq0 (pt l 1) * ((pt l 2).f1 - (pt l 0).f1) + sq0 (pt l 2) * ((pt l 0).f1 - (pt l 1).f1)
def cY (l : List S_impl_Peg) : Int := 0 - sq0 (pt l 0) * ((pt l 1).f0 - (pt l 2).f0) - sq0 (pt l 1) * ((pt l 2).f0 - (pt l 0).f0) - sq0 (pt l 2) * ((pt l 0).f0 - (pt l 1).f0)
def cD (l : List S_impl_Peg) : Int := 2 * ar l
def cG (l : List S_impl_Peg) : Int := gc (gc (cX l) (cY l)) (cD l)
def circ (l : List S_impl_Peg) : Int × Int × Int × Bool := (wrap64 (Int.tdiv (cX l) (cG l * sgn (cD l))), wrap64 (Int.tdiv (cY l) (cG l * sgn (cD l))), wrap64 (Int.tdiv (cD l) (cG l * sgn (cD l))), true)
noncomputable def ans_CircleOfThree (l : List S_impl_Peg) : Int × Int × Int × Bool := if three l = true then circ l else (0, 0, 0, false)
theorem sq0_bd {p : S_impl_Peg} (h : Sm 40 p) : 0 ≤ sq0 p ∧ sq0 p ≤ 3200 := by
 unfold Sm at h
 unfold sq0
 have h1 := mul_bd (x := p.f0) (y := p.f0) (A := 40) (B := 40) (by omega) (by omega)
 have h2 := mul_bd (x := p.f1) (y := p.f1) (A := 40) (B := 40) (by omega) (by omega)
 have h3 := sqr_nonneg p.f0
 have h4 := sqr_nonneg p.f1
 omega
theorem impl_sq0_eq {p : S_impl_Peg} (h : Sm 40 p) : impl_Peg_square.f p.f0 p.f1 = some (sq0 p) := by
 unfold Sm at h
 unfold impl_Peg_square.f sq0
 have h1 := mul_bd (x := p.f0) (y := p.f0) (A := 40) (B := 40) (by omega) (by omega)
 have h2 := mul_bd (x := p.f1) (y := p.f1) (A := 40) (B := 40) (by omega) (by omega)
 simp (disch := omega) only [w64]
section
variable {l : List S_impl_Peg} (h3 : l.length = 3) (ok : Poly l)
include h3 ok in
theorem c_bd : (-768000 ≤ cX l ∧ cX l ≤ 768000) ∧ (-768000 ≤ cY l ∧ cY l ≤ 768000) ∧ (-64000 ≤ cD l ∧ cD l ≤ 64000) ∧ cD l ≠ 0 ∧ 0 < cG l ∧ cG l ≤ 10000000 := by
 have p0 := ok.pegs 0 (by omega)
 have p1 := ok.pegs 1 (by omega)
 have p2 := ok.pegs 2 (by omega)
 have s0 := sq0_bd p0
 have s1 := sq0_bd p1
 have s2 := sq0_bd p2
 unfold Sm at p0 p1 p2
 have x0 := mul_bd (x := sq0 (pt l 0)) (y := (pt l 1).f1 - (pt l 2).f1) (A := 3200) (B := 80) (by omega) (by omega)
 have x1 := mul_bd (x := sq0 (pt l 1)) (y := (pt l 2).f1 - (pt l 0).f1) (A := 3200) (B := 80) (by omega) (by omega)
 have x2 := mul_bd (x := sq0 (pt l 2)) (y := (pt l 0).f1 - (pt l 1).f1) (A := 3200) (B := 80) (by omega) (by omega)
 have y0 := mul_bd (x := sq0 (pt l 0)) (y := (pt l 1).f0 - (pt l 2).f0) (A := 3200) (B := 80) (by omega) (by omega)
 have y1 := mul_bd (x := sq0 (pt l 1)) (y := (pt l 2).f0 - (pt l 0).f0) (A := 3200) (B := 80) (by omega) (by omega)
 have y2 := mul_bd (x := sq0 (pt l 2)) (y := (pt l 0).f0 - (pt l 1).f0) (A := 3200) (B := 80) (by omega) (by omega)
 have ha := ok.area_bd
 have hne := ar_ne h3 ok
 have bX : -768000 ≤ cX l ∧ cX l ≤ 768000 := by unfold cX; omega
 have bY : -768000 ≤ cY l ∧ cY l ≤ 768000 := by unfold cY; omega
 have bD : -64000 ≤ cD l ∧ cD l ≤ 64000 := by unfold cD; omega
 have hD : cD l ≠ 0 := by unfold cD; omega
 have g1 := gc_bd (cX l) (cY l)
 have g2 := gc_bd (gc (cX l) (cY l)) (cD l)
 have g3 := gc_pos (a := gc (cX l) (cY l)) (b := cD l) (Or.inr hD)
 unfold cG
 exact ⟨bX, bY, bD, hD, g3, by omega⟩
include h3 ok in
theorem ev_impl_circ : Ev (fun k => impl_CircleOfThree.l0 k l 0 0 (cD l) l l.length ((0 : Nat) : Int)) (circ l) := by
 obtain ⟨bX, bY, bD, hD, hG, hG2⟩ := c_bd h3 ok
 have p0 := ok.pegs 0 (by omega)
 have p1 := ok.pegs 1 (by omega)
 have p2 := ok.pegs 2 (by omega)
 have s0 := sq0_bd p0
 have s1 := sq0_bd p1
 have s2 := sq0_bd p2
 have q0 := impl_sq0_eq p0
 have q1 := impl_sq0_eq p1
 have q2 := impl_sq0_eq p2
 unfold Sm at p0 p1 p2
 have x0 := mul_bd (x := sq0 (pt l 0)) (y := (pt l 1).f1 - (pt l 2).f1) (A := 3200) (B := 80) (by omega) (by omega)
 have x1 := mul_bd (x := sq0 (pt l 1)) (y := (pt l 2).f1 - (pt l 0).f1) (A := 3200) (B := 80) (by omega) (by omega)
 have x2 := mul_bd (x := sq0 (pt l 2)) (y := (pt l 0).f1 - (pt l 1).f1) (A := 3200) (B := 80) (by omega) (by omega)
 have y0 := mul_bd (x := sq0 (pt l 0)) (y := (pt l 1).f0 - (pt l 2).f0) (A := 3200) (B := 80) (by omega) (by omega)
 have y1 := mul_bd (x := sq0 (pt l 1)) (y := (pt l 2).f0 - (pt l 0).f0) (A := 3200) (B := 80) (by omega) (by omega)
 have y2 := mul_bd (x := sq0 (pt l 2)) (y := (pt l 0).f0 - (pt l 1).f0) (A := 3200) (B := 80) (by omega) (by omega)
 have n0 : nx l.length 0 = 1 := by unfold nx; rw [if_neg (by omega)]
 have n1 : nx l.length 1 = 2 := by unfold nx; rw [if_neg (by omega)]
 have n2 : nx l.length 2 = 0 := by unfold nx; rw [if_pos (by omega)]
 have a0 := at_next l 0 (by omega) (by omega)
 have a0' := at_next2 l 0 (by omega) (by omega) (by omega)
 have a1 := at_next l 1 (by omega) (by omega)
 have a1' := at_next2 l 1 (by omega) (by omega) (by omega)
 have a2 := at_next l 2 (by omega) (by omega)
 have a2' := at_next2 l 2 (by omega) (by omega) (by omega)
 simp only [n0, n1, n2] at a0 a0' a1 a1' a2 a2'
 refine Ev.succ ?_
 simp (disch := omega) only [impl_CircleOfThree.l0, if_pos, rd_pt, w64 (x := ((0 : Nat) : Int) + 1), w64 (x := ((0 : Nat) : Int) + 2), a0, a0', Option.bind_some, impl_Peg_less.f, q0, w64 (x := (pt l 1).f0 - (pt l 2).f0), w64 (x := (pt l 1).f1 - (pt l 2).f1), w64 (x := sq0 (pt l 0) * ((pt l 1).f1 - (pt l 2).f1)), w64 (x := sq0 (pt l 0) * ((pt l 1).f0 - (pt l 2).f0)), w64 (x := 0 + sq0 (pt l 0) * ((pt l 1).f1 - (pt l 2).f1)), w64 (x := 0 - sq0 (pt l 0) * ((pt l 1).f0 - (pt l 2).f0))]
 rw [show ((0 : Nat) : Int) + 1 = ((1 : Nat) : Int) from rfl]
 refine Ev.succ ?_
 simp (disch := omega) only [impl_CircleOfThree.l0, if_pos, rd_pt, w64 (x := ((1 : Nat) : Int) + 1), w64 (x := ((1 : Nat) : Int) + 2), a1, a1', Option.bind_some, impl_Peg_less.f, q1, w64 (x := (pt l 2).f0 - (pt l 0).f0), w64 (x := (pt l 2).f1 - (pt l 0).f1), w64 (x := sq0 (pt l 1) * ((pt l 2).f1 - (pt l 0).f1)), w64 (x := sq0 (pt l 1) * ((pt l 2).f0 - (pt l 0).f0)), w64 (x := 0 + sq0 (pt l 0) * ((pt l 1).f1 - (pt l 2).f1) + sq0 (pt l 1) * ((pt l 2).f1 - (pt l 0).f1)), w64 (x := 0 - sq0 (pt l 0) * ((pt l 1).f0 - (pt l 2).f0) - sq0 (pt l 1) * ((pt l 2).f0 - (pt l 0).f0))]
 rw [show ((1 : Nat) : Int) + 1 = ((2 : Nat) : Int) from rfl]
 refine Ev.succ ?_
 simp (disch := omega) only [impl_CircleOfThree.l0, if_pos, rd_pt, w64 (x := ((2 : Nat) : Int) + 1), w64 (x := ((2 : Nat) : Int) + 2), a2, a2', Option.bind_some, impl_Peg_less.f, q2, w64 (x := (pt l 0).f0 - (pt l 1).f0), w64 (x := (pt l 0).f1 - (pt l 1).f1), w64 (x := sq0 (pt l 2) * ((pt l 0).f1 - (pt l 1).f1)), w64 (x := sq0 (pt l 2) * ((pt l 0).f0 - (pt l 1).f0)), w64 (x := 0 + sq0 (pt l 0) * ((pt l 1).f1 - (pt l 2).f1) + sq0 (pt l 1) * ((pt l 2).f1 - (pt l 0).f1) + sq0 (pt l 2) * ((pt l 0).f1 - (pt l 1).f1)), w64 (x := 0 - sq0 (pt l 0) * ((pt l 1).f0 - (pt l 2).f0) - sq0 (pt l 1) * ((pt l 2).f0 - (pt l 0).f0) - sq0 (pt l 2) * ((pt l 0).f0 - (pt l 1).f0))]
 rw [show ((2 : Nat) : Int) + 1 = ((3 : Nat) : Int) from rfl]
 refine Ev.succ ?_
 simp (disch := omega) only [impl_CircleOfThree.l0, if_neg]
 have eX : 0 + sq0 (pt l 0) * ((pt l 1).f1 - (pt l 2).f1) + sq0 (pt l 1) * ((pt l 2).f1 - (pt l 0).f1) + sq0 (pt l 2) * ((pt l 0).f1 - (pt l 1).f1) = cX l := by unfold cX; omega
 have eY : 0 - sq0 (pt l 0) * ((pt l 1).f0 - (pt l 2).f0) - sq0 (pt l 1) * ((pt l 2).f0 - (pt l 0).f0) - sq0 (pt l 2) * ((pt l 0).f0 - (pt l 1).f0) = cY l := rfl
 rw [eX, eY]
 have g1 := gc_bd (cX l) (cY l)
 refine Ev.bind (ev_impl_divisor (cX l) (cY l) (by omega) (by omega)) ?_
 refine Ev.bind (ev_impl_divisor (gc (cX l) (cY l)) (cD l) (by omega) (by omega)) ?_
 simp only [impl_sign_eq, Option.bind_some]
 show Ev (fun n => if wrap64 (cG l * sgn (cD l)) = 0 then none else some (wrap64 ((cX l).tdiv (wrap64 (cG l * sgn (cD l)))), wrap64 ((cY l).tdiv (wrap64 (cG l * sgn (cD l)))), wrap64 ((cD l).tdiv (wrap64 (cG l * sgn (cD l)))), true)) (circ l)
 have hs : sgn (cD l) = 1 ∨ sgn (cD l) = -1 := by
  unfold sgn
  by_cases c1 : cD l > 0
  ·rw [if_pos c1]
   exact Or.inl rfl
  ·rw [if_neg c1, if_pos (by omega)]
   exact Or.inr rfl
 have hb : wrap64 (cG l * sgn (cD l)) = cG l * sgn (cD l) := by rcases hs with e | e <;> rw [e] <;> exact w64 (by omega)
 have hz : ¬ cG l * sgn (cD l) = 0 := by rcases hs with e | e <;> rw [e] <;> omega
 simp only [hb, if_neg hz]
 exact Ev.now _
end
theorem ev_impl_CircleOfThree (l : List S_impl_Peg) : Ev (fun k => impl_CircleOfThree.f k l) (ans_CircleOfThree l) := by
 unfold impl_CircleOfThree.f ans_CircleOfThree
 refine ask3I l (fun h3 ok => ?_) (Ev.now _)
 have ha := ok.area_bd
 simp only [if_true]
 refine Ev.bind ok.area ?_
 rw [w64 (x := 2 * ar l) (by omega)]
 exact ev_impl_circ h3 ok
theorem gc_neg (a b : Int) : gc (-a) b = gc a b := by
 unfold gc
 rw [Int.neg_gcd]
theorem gc_neg' (a b : Int) : gc a (-b) = gc a b := by
 unfold gc
 rw [Int.gcd_neg]
theorem ev_spec_CircleOfThree (l : List S_impl_Peg) : Ev (fun k => spec_CircleOfThree.f k l) (ans_CircleOfThree l) := by
 unfold spec_CircleOfThree.f ans_CircleOfThree
 refine ask3S l (fun h3 ok => ?_) (Ev.now _)
 obtain ⟨bX, bY, bD, hD, hG, hG2⟩ := c_bd h3 ok
 simp (disch := omega) only [if_true, if_pos, rd0, rd1, rd2]
 have p0 := ok.pegs 0 (by omega)
 have p1 := ok.pegs 1 (by omega)
 have p2 := ok.pegs 2 (by omega)
 have eD : 2 * (((pt l 1).f0 - (pt l 0).f0) * ((pt l 2).f1 - (pt l 0).f1) - ((pt l 1).f1 - (pt l 0).f1) * ((pt l 2).f0 - (pt l 0).f0)) = cD l := by
  unfold cD
  rw [ar_three h3]
  rfl
 have fin : ∀ x y d : Int, (x = cX l ∧ y = cY l ∧ d = cD l ∧ 0 < cD l) ∨ (x = -cX l ∧ y = -cY l ∧ d = -cD l ∧ cD l < 0) → Ev (fun k => spec_CircleOfThree.j0 k d x y) (circ l) := by
  intro x y d h
  refine Ev.succ ?_
  simp only [spec_CircleOfThree.j0]
  refine Ev.bind (ev_spec_common x y (by omega) (by omega)) ?_
  have g1 := gc_bd x y
  refine Ev.bind (ev_spec_common (gc x y) d (by omega) (by omega)) ?_
  have eG : gc (gc x y) d = cG l := by
   unfold cG
   rcases h with ⟨rfl, rfl, rfl, _⟩ | ⟨rfl, rfl, rfl, _⟩
   ·rfl
   ·rw [gc_neg, gc_neg', gc_neg']
  rw [eG]
  simp (disch := omega) only [if_neg]
  unfold circ
  rcases h with ⟨rfl, rfl, rfl, hp⟩ | ⟨rfl, rfl, rfl, hp⟩
  ·have : sgn (cD l) = 1 := by unfold sgn; rw [if_pos (by omega)]
   rw [this, Int.mul_one]
   exact Ev.now _
  ·have : sgn (cD l) = -1 := by unfold sgn; rw [if_neg (by omega), if_pos (by omega)]
   rw [this, Int.mul_neg, Int.mul_one, Int.tdiv_neg, Int.tdiv_neg, Int.tdiv_neg, ← Int.neg_tdiv, ← Int.neg_tdiv, ← Int.neg_tdiv]
   exact Ev.now _
 have eX : ((pt l 2).f1 - (pt l 0).f1) * (((pt l 1).f0 - (pt l 0).f0) * ((pt l 1).f0 - (pt l 0).f0) + ((pt l 1).f1 - (pt l 0).f1) * ((pt l 1).f1 - (pt l 0).f1)) - ((pt l 1).f1 - (pt l 0).f1) * (((pt l 2).f0 - (pt l 0).f0) * ((pt l 2).f0 - (pt l 0).f0) + ((pt l 2).f1 - (pt l 0).f1) * ((pt l 2).f1 - (pt l 0).f1)) + (pt l 0).f0 * cD l = cX l := by
  rw [← eD]
  unfold cX sq0
  grind
 have eY : ((pt l 1).f0 - (pt l 0).f0) * (((pt l 2).f0 - (pt l 0).f0) * ((pt l 2).f0 - (pt l 0).f0) + ((pt l 2).f1 - (pt l 0).f1) * ((pt l 2).f1 - (pt l 0).f1)) - ((pt l 2).f0 - (pt l 0).f0) * (((pt l 1).f0 - (pt l 0).f0) * ((pt l 1).f0 - (pt l 0).f0) + ((pt l 1).f1 - (pt l 0).f1) * ((pt l 1).f1 - (pt l 0).f1)) + (pt l 0).f1 * cD l = cY l := by
  rw [← eD]
  unfold cY sq0
  grind
 have ab := mul_bd (x := (pt l 0).f0) (y := cD l) (A := 40) (B := 64000) (by unfold Sm at p0; omega) (by omega)
 have ab' := mul_bd (x := (pt l 0).f1) (y := cD l) (A := 40) (B := 64000) (by unfold Sm at p0; omega) (by omega)
 unfold Sm at p0 p1 p2
 have b1 : -80 ≤ (pt l 1).f0 - (pt l 0).f0 ∧ (pt l 1).f0 - (pt l 0).f0 ≤ 80 := by omega
 have b2 : -80 ≤ (pt l 1).f1 - (pt l 0).f1 ∧ (pt l 1).f1 - (pt l 0).f1 ≤ 80 := by omega
 have b3 : -80 ≤ (pt l 2).f0 - (pt l 0).f0 ∧ (pt l 2).f0 - (pt l 0).f0 ≤ 80 := by omega
 have b4 : -80 ≤ (pt l 2).f1 - (pt l 0).f1 ∧ (pt l 2).f1 - (pt l 0).f1 ≤ 80 := by omega
 simp only [w64 (x := (pt l 1).f0 - (pt l 0).f0) (by omega), w64 (x := (pt l 1).f1 - (pt l 0).f1) (by omega), w64 (x := (pt l 2).f0 - (pt l 0).f0) (by omega), w64 (x := (pt l 2).f1 - (pt l 0).f1) (by omega)]
 revert eD eX eY b1 b2 b3 b4
 generalize (pt l 1).f0 - (pt l 0).f0 = bx
 generalize (pt l 1).f1 - (pt l 0).f1 = by_
 generalize (pt l 2).f0 - (pt l 0).f0 = cx
 generalize (pt l 2).f1 - (pt l 0).f1 = cy
 intro eD eX eY b1 b2 b3 b4
 have m1 := mul_bd (x := bx) (y := cy) (A := 80) (B := 80) b1 b4
 have m2 := mul_bd (x := by_) (y := cx) (A := 80) (B := 80) b2 b3
 have m3 := mul_bd (x := bx) (y := bx) (A := 80) (B := 80) b1 b1
 have m4 := mul_bd (x := by_) (y := by_) (A := 80) (B := 80) b2 b2
 have m5 := mul_bd (x := cx) (y := cx) (A := 80) (B := 80) b3 b3
 have m6 := mul_bd (x := cy) (y := cy) (A := 80) (B := 80) b4 b4
 simp only [w64 (x := bx * cy) (by omega), w64 (x := by_ * cx) (by omega), w64 (x := bx * bx) (by omega), w64 (x := by_ * by_) (by omega), w64 (x := cx * cx) (by omega), w64 (x := cy * cy) (by omega), w64 (x := bx * cy - by_ * cx) (by omega), w64 (x := bx * bx + by_ * by_) (by omega), w64 (x := cx * cx + cy * cy) (by omega), eD, w64 (x := cD l) (by omega)]
 revert eX eY
 have s1 : -12800 ≤ bx * bx + by_ * by_ ∧ bx * bx + by_ * by_ ≤ 12800 := by omega
 have s2 : -12800 ≤ cx * cx + cy * cy ∧ cx * cx + cy * cy ≤ 12800 := by omega
 revert s1 s2
 generalize bx * bx + by_ * by_ = P
 generalize cx * cx + cy * cy = Q
 intro s1 s2 eX eY
 have t1 := mul_bd (x := cy) (y := P) (A := 80) (B := 12800) b4 s1
 have t2 := mul_bd (x := by_) (y := Q) (A := 80) (B := 12800) b2 s2
 have t3 := mul_bd (x := bx) (y := Q) (A := 80) (B := 12800) b1 s2
 have t4 := mul_bd (x := cx) (y := P) (A := 80) (B := 12800) b3 s1
 simp only [w64 (x := cy * P) (by omega), w64 (x := by_ * Q) (by omega), w64 (x := bx * Q) (by omega), w64 (x := cx * P) (by omega), w64 (x := cy * P - by_ * Q) (by omega), w64 (x := bx * Q - cx * P) (by omega), w64 (x := (pt l 0).f0 * cD l) (by omega), w64 (x := (pt l 0).f1 * cD l) (by omega), eX, eY, w64 (x := cX l) (by omega), w64 (x := cY l) (by omega)]
 by_cases hd : cD l < 0
 ·simp only [if_pos hd]
  simp only [w64 (x := -cD l) (by omega), w64 (x := -cX l) (by omega), w64 (x := -cY l) (by omega)]
  exact fin _ _ _ (Or.inr ⟨rfl, rfl, rfl, hd⟩)
 ·simp only [if_neg hd]
  exact fin _ _ _ (Or.inl ⟨rfl, rfl, rfl, by omega⟩)
theorem FnExactCircleOfThree : laws_FnExactCircleOfThree.Pure := by
 intro l0 hl0
 have hl0 := hl0.1
 refine Ev.rounds ?_
 unfold laws_FnExactCircleOfThree.f
 rw [szPegS_eq l0 hl0]
 simp only [Option.bind_some]
 by_cases gl0 : 1048576 < l0.length
 ·simp only [if_pos gl0]
  exact Ev.now _
 simp only [if_neg gl0]
 simp (disch := omega) only [if_neg]
 have el0 : l0.length ≤ 1048576 := by omega
 obtain ⟨R, hR⟩ : ∃ R, R = ans_CircleOfThree (toP l0) := ⟨_, rfl⟩
 have hS := ev_spec_CircleOfThree (toP l0)
 have hM := ev_impl_CircleOfThree (toP l0)
 rw [← hR] at hS hM
 repeat (first | exact Ev.now _ | refine Ev.bind (ev_toPegS l0 el0) ?_ | refine Ev.bind hS ?_ | refine Ev.bind hM ?_ | refine Ev.bind (ev_eqPegS (toP l0) (by rw [toP_length]; omega)) ?_ | simp only [eq_self, if_true, bne_self_eq_false, Bool.false_eq_true, if_false, Option.bind_some] | simp (disch := omega) only [if_neg, if_pos] | (refine Ev.succ ?_; simp only [laws_FnExactCircleOfThree.j0, Bool.false_eq_true, if_false]))

end Go.Proofs.Ytiacfkilmknldaa.Pure
