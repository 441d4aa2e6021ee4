-- thin
/- The circle about a triangle, in the reference. -/
import Derived.Test.YtfihohongkfibaaX0
import Derived.Test.YtfihohongkfibaaX19
import Derived.Test.YtfihohongkfibaaBBase
import Derived.Test.YtfihohongkfibaaBCore
import Derived.Test.YtfihohongkfibaaBPoly
import Derived.Test.YtfihohongkfibaaBAsk
import Derived.Test.YtfihohongkfibaaBArea
import Derived.Test.YtfihohongkfibaaBThree
import Derived.Test.YtfihohongkfibaaBThreeArea
import Derived.Test.YtfihohongkfibaaBSteps
namespace Go.Proofs.Ytfihohongkfibaa.B
open Go.RowKit Go.Proofs.Ytfihohongkfibaa.XW Go.Proofs.Ytfihohongkfibaa.X Go.Proofs.YtfihohongkfibaaW.PrintWords Go.Proofs.YtfihohongkfibaaW.PrintLast Go.Proofs.Ytfihohongkfibaa.B
set_option linter.unusedVariables false
set_option linter.unusedSimpArgs false
set_option maxRecDepth 20000

def sq0 (p : S_impl_Peg) : Int := p.f0 * p.f0 + p.f1 * p.f1
def ccX (l : List S_impl_Peg) : Int := sq0 (pt l 0) * ((pt l 1).f1 - (pt l 2).f1) + sq0 (pt l 1) * ((pt l 2).f1 - (pt l 0).f1) + sq0 (pt l 2) * ((pt l 0).f1 - (pt l 1).f1)
def ccY (l : List S_impl_Peg) : Int := 0 - sq0 (pt l 0) * ((pt l 1).f0 - (pt l 2).f0) - sq0 (pt l 1) * ((pt l 2).f0 - (pt l 0).f0) - sq0 (pt l 2) * ((pt l 0).f0 - (pt l 1).f0)
def ccD (l : List S_impl_Peg) : Int := 2 * ar l
def ccG (l : List S_impl_Peg) : Int := gc (gc (ccX l) (ccY l)) (ccD l)
def circ (l : List S_impl_Peg) : Int × Int × Int × Bool := (wrap64 (Int.tdiv (ccX l) (ccG l * sgn (ccD l))), wrap64 (Int.tdiv (ccY l) (ccG l * sgn (ccD l))), wrap64 (Int.tdiv (ccD l) (ccG l * sgn (ccD l))), true)
noncomputable def ans_CircleOfThree (l : List S_impl_Peg) : Int × Int × Int × Bool := if three l = true then circ l else (0, 0, 0, false)
theorem sq0_bd {p : S_impl_Peg} (h : Sm 40 p) : 0 ≤ sq0 p ∧ sq0 p ≤ 3200 := by
 unfold Sm at h
 unfold sq0
 have h1 := mul_bd (x := p.f0) (y := p.f0) (A := 40) (B := 40) (by omega) (by omega)
 have h2 := mul_bd (x := p.f1) (y := p.f1) (A := 40) (B := 40) (by omega) (by omega)
 have h3 := sqr_nonneg p.f0
 have h4 := sqr_nonneg p.f1
 omega
section
variable {l : List S_impl_Peg} (h3 : l.length = 3) (ok : Poly l)
include h3 ok in
theorem c_bd : (-768000 ≤ ccX l ∧ ccX l ≤ 768000) ∧ (-768000 ≤ ccY l ∧ ccY l ≤ 768000) ∧ (-64000 ≤ ccD l ∧ ccD l ≤ 64000) ∧ ccD l ≠ 0 ∧ 0 < ccG l ∧ ccG l ≤ 10000000 := by
 have p0 := ok.pegs 0 (by omega)
 have p1 := ok.pegs 1 (by omega)
 have p2 := ok.pegs 2 (by omega)
 have s0 := sq0_bd p0
 have s1 := sq0_bd p1
 have s2 := sq0_bd p2
 unfold Sm at p0 p1 p2
 have x0 := mul_bd (x := sq0 (pt l 0)) (y := (pt l 1).f1 - (pt l 2).f1) (A := 3200) (B := 80) (by omega) (by omega)
 have x1 := mul_bd (x := sq0 (pt l 1)) (y := (pt l 2).f1 - (pt l 0).f1) (A := 3200) (B := 80) (by omega) (by omega)
 have x2 := mul_bd (x := sq0 (pt l 2)) (y := (pt l 0).f1 - (pt l 1).f1) (A := 3200) (B := 80) (by omega) (by omega)
 have y0 := mul_bd (x := sq0 (pt l 0)) (y := (pt l 1).f0 - (pt l 2).f0) (A := 3200) (B := 80) (by omega) (by omega)
 have y1 := mul_bd (x := sq0 (pt l 1)) (y := (pt l 2).f0 - (pt l 0).f0) (A := 3200) (B := 80) (by omega) (by omega)
 have y2 := mul_bd (x := sq0 (pt l 2)) (y := (pt l 0).f0 - (pt l 1).f0) (A := 3200) (B := 80) (by omega) (by omega)
 have ha := ok.area_bd
 have hne := ar_ne h3 ok
 have bX : -768000 ≤ ccX l ∧ ccX l ≤ 768000 := by unfold ccX; omega
 have bY : -768000 ≤ ccY l ∧ ccY l ≤ 768000 := by unfold ccY; omega
 have bD : -64000 ≤ ccD l ∧ ccD l ≤ 64000 := by unfold ccD; omega
 have hD : ccD l ≠ 0 := by unfold ccD; omega
 have g1 := gc_bd (ccX l) (ccY l)
 have g2 := gc_bd (gc (ccX l) (ccY l)) (ccD l)
 have g3 := gc_pos (a := gc (ccX l) (ccY l)) (b := ccD l) (Or.inr hD)
 unfold ccG
 exact ⟨bX, bY, bD, hD, g3, by omega⟩
end
theorem gc_neg (a b : Int) : gc (-a) b = gc a b := by
 unfold gc
 rw [Int.neg_gcd]
theorem gc_neg' (a b : Int) : gc a (-b) = gc a b := by
 unfold gc
 rw [Int.gcd_neg]
theorem ev_spec_CircleOfThree (l : List S_impl_Peg) : Ev (fun k => spec_CircleOfThree.f k l) (ans_CircleOfThree l) := by
 unfold spec_CircleOfThree.f ans_CircleOfThree
 refine ask3S l (fun h3 ok => ?_) (Ev.now _)
 obtain ⟨bX, bY, bD, hD, hG, hG2⟩ := c_bd h3 ok
 simp (disch := omega) only [if_true, if_pos, rd0, rd1, rd2]
 have p0 := ok.pegs 0 (by omega)
 have p1 := ok.pegs 1 (by omega)
 have p2 := ok.pegs 2 (by omega)
 have eD : 2 * (((pt l 1).f0 - (pt l 0).f0) * ((pt l 2).f1 - (pt l 0).f1) - ((pt l 1).f1 - (pt l 0).f1) * ((pt l 2).f0 - (pt l 0).f0)) = ccD l := by
  unfold ccD
  rw [ar_three h3]
  rfl
 have fin : ∀ x y d : Int, (x = ccX l ∧ y = ccY l ∧ d = ccD l ∧ 0 < ccD l) ∨ (x = -ccX l ∧ y = -ccY l ∧ d = -ccD l ∧ ccD l < 0) → Ev (fun k => spec_CircleOfThree.j0 k d x y) (circ l) := by
  intro x y d h
  refine Ev.succ ?_
  simp only [spec_CircleOfThree.j0]
  refine Ev.bind (ev_spec_common x y (by omega) (by omega)) ?_
  have g1 := gc_bd x y
  refine Ev.bind (ev_spec_common (gc x y) d (by omega) (by omega)) ?_
  have eG : gc (gc x y) d = ccG l := by
   unfold ccG
   rcases h with ⟨rfl, rfl, rfl, _⟩ | ⟨rfl, rfl, rfl, _⟩
   ·rfl
   ·rw [gc_neg, gc_neg', gc_neg']
  rw [eG]
  simp (disch := omega) only [if_neg]
  unfold circ
  rcases h with ⟨rfl, rfl, rfl, hp⟩ | ⟨rfl, rfl, rfl, hp⟩
  ·have : sgn (ccD l) = 1 := by unfold sgn; rw [if_pos (by omega)]
   rw [this, Int.mul_one]
   exact Ev.now _
  ·have : sgn (ccD l) = -1 := by unfold sgn; rw [if_neg (by omega), if_pos (by omega)]
   rw [this, Int.mul_neg, Int.mul_one, Int.tdiv_neg, Int.tdiv_neg, Int.tdiv_neg, ← Int.neg_tdiv, ← Int.neg_tdiv, ← Int.neg_tdiv]
   exact Ev.now _
 have eX : ((pt l 2).f1 - (pt l 0).f1) * (((pt l 1).f0 - (pt l 0).f0) * ((pt l 1).f0 - (pt l 0).f0) + ((pt l 1).f1 - (pt l 0).f1) * ((pt l 1).f1 - (pt l 0).f1)) - ((pt l 1).f1 - (pt l 0).f1) * (((pt l 2).f0 - (pt l 0).f0) * ((pt l 2).f0 - (pt l 0).f0) + ((pt l 2).f1 - (pt l 0).f1) * ((pt l 2).f1 - (pt l 0).f1)) + (pt l 0).f0 * ccD l = ccX l := by
  rw [← eD]
  unfold ccX sq0
  grind
 have eY : ((pt l 1).f0 - (pt l 0).f0) * (((pt l 2).f0 - (pt l 0).f0) * ((pt l 2).f0 - (pt l 0).f0) + ((pt l 2).f1 - (pt l 0).f1) * ((pt l 2).f1 - (pt l 0).f1)) - ((pt l 2).f0 - (pt l 0).f0) * (((pt l 1).f0 - (pt l 0).f0) * ((pt l 1).f0 - (pt l 0).f0) + ((pt l 1).f1 - (pt l 0).f1) * ((pt l 1).f1 - (pt l 0).f1)) + (pt l 0).f1 * ccD l = ccY l := by
  rw [← eD]
  unfold ccY sq0
  grind
 have ab := mul_bd (x := (pt l 0).f0) (y := ccD l) (A := 40) (B := 64000) (by unfold Sm at p0; omega) (by omega)
 have ab' := mul_bd (x := (pt l 0).f1) (y := ccD l) (A := 40) (B := 64000) (by unfold Sm at p0; omega) (by omega)
 unfold Sm at p0 p1 p2
 have b1 : -80 ≤ (pt l 1).f0 - (pt l 0).f0 ∧ (pt l 1).f0 - (pt l 0).f0 ≤ 80 := by omega
 have b2 : -80 ≤ (pt l 1).f1 - (pt l 0).f1 ∧ (pt l 1).f1 - (pt l 0).f1 ≤ 80 := by omega
 have b3 : -80 ≤ (pt l 2).f0 - (pt l 0).f0 ∧ (pt l 2).f0 - (pt l 0).f0 ≤ 80 := by omega
 have b4 : -80 ≤ (pt l 2).f1 - (pt l 0).f1 ∧ (pt l 2).f1 - (pt l 0).f1 ≤ 80 := by omega
 simp only [w64 (x := (pt l 1).f0 - (pt l 0).f0) (by omega), w64 (x := (pt l 1).f1 - (pt l 0).f1) (by omega), w64 (x := (pt l 2).f0 - (pt l 0).f0) (by omega), w64 (x := (pt l 2).f1 - (pt l 0).f1) (by omega)]
 revert eD eX eY b1 b2 b3 b4
 generalize (pt l 1).f0 - (pt l 0).f0 = bx
 generalize (pt l 1).f1 - (pt l 0).f1 = by_
 generalize (pt l 2).f0 - (pt l 0).f0 = cx
 generalize (pt l 2).f1 - (pt l 0).f1 = cy
 intro eD eX eY b1 b2 b3 b4
 have m1 := mul_bd (x := bx) (y := cy) (A := 80) (B := 80) b1 b4
 have m2 := mul_bd (x := by_) (y := cx) (A := 80) (B := 80) b2 b3
 have m3 := mul_bd (x := bx) (y := bx) (A := 80) (B := 80) b1 b1
 have m4 := mul_bd (x := by_) (y := by_) (A := 80) (B := 80) b2 b2
 have m5 := mul_bd (x := cx) (y := cx) (A := 80) (B := 80) b3 b3
 have m6 := mul_bd (x := cy) (y := cy) (A := 80) (B := 80) b4 b4
 simp only [w64 (x := bx * cy) (by omega), w64 (x := by_ * cx) (by omega), w64 (x := bx * bx) (by omega), w64 (x := by_ * by_) (by omega), w64 (x := cx * cx) (by omega), w64 (x := cy * cy) (by omega), w64 (x := bx * cy - by_ * cx) (by omega), w64 (x := bx * bx + by_ * by_) (by omega), w64 (x := cx * cx + cy * cy) (by omega), eD, w64 (x := ccD l) (by omega)]
 revert eX eY
 have s1 : -12800 ≤ bx * bx + by_ * by_ ∧ bx * bx + by_ * by_ ≤ 12800 := by omega
 have s2 : -12800 ≤ cx * cx + cy * cy ∧ cx * cx + cy * cy ≤ 12800 := by omega
 revert s1 s2
 generalize bx * bx + by_ * by_ = P
 generalize cx * cx + cy * cy = Q
 intro s1 s2 eX eY
 have t1 := mul_bd (x := cy) (y := P) (A := 80) (B := 12800) b4 s1
 have t2 := mul_bd (x := by_) (y := Q) (A := 80) (B := 12800) b2 s2
 have t3 := mul_bd (x := bx) (y := Q) (A := 80) (B := 12800) b1 s2
 have t4 := mul_bd (x := cx) (y := P) (A := 80) (B := 12800) b3 s1
 simp only [w64 (x := cy * P) (by omega), w64 (x := by_ * Q) (by omega), w64 (x := bx * Q) (by omega), w64 (x := cx * P) (by omega), w64 (x := cy * P - by_ * Q) (by omega), w64 (x := bx * Q - cx * P) (by omega), w64 (x := (pt l 0).f0 * ccD l) (by omega), w64 (x := (pt l 0).f1 * ccD l) (by omega), eX, eY, w64 (x := ccX l) (by omega), w64 (x := ccY l) (by omega)]
 by_cases hd : ccD l < 0
 ·simp only [if_pos hd]
  simp only [w64 (x := -ccD l) (by omega), w64 (x := -ccX l) (by omega), w64 (x := -ccY l) (by omega)]
  exact fin _ _ _ (Or.inr ⟨rfl, rfl, rfl, hd⟩)
 ·simp only [if_neg hd]
  exact fin _ _ _ (Or.inl ⟨rfl, rfl, rfl, by omega⟩)

end Go.Proofs.Ytfihohongkfibaa.B
