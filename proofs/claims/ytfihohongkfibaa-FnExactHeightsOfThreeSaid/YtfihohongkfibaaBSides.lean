-- thin
/- The squares of a triangle's sides. -/
import Derived.Test.YtfihohongkfibaaX0
import Derived.Test.YtfihohongkfibaaX6
import Derived.Test.YtfihohongkfibaaX7
import Derived.Test.YtfihohongkfibaaX8
import Derived.Test.YtfihohongkfibaaX12
import Derived.Test.YtfihohongkfibaaX13
import Derived.Test.YtfihohongkfibaaBBase
import Derived.Test.YtfihohongkfibaaBCore
import Derived.Test.YtfihohongkfibaaBPoly
import Derived.Test.YtfihohongkfibaaBAsk
import Derived.Test.YtfihohongkfibaaBThree
namespace Go.Proofs.Ytfihohongkfibaa.B
open Go.RowKit Go.Proofs.Ytfihohongkfibaa.XW Go.Proofs.Ytfihohongkfibaa.X Go.Proofs.YtfihohongkfibaaW.PrintWords Go.Proofs.YtfihohongkfibaaW.PrintLast Go.Proofs.Ytfihohongkfibaa.B
set_option linter.unusedVariables false
set_option linter.unusedSimpArgs false
set_option maxRecDepth 20000

/-- The square of how far two points are apart. -/
def sq (p q : S_impl_Peg) : Int := (p.f0 - q.f0) * (p.f0 - q.f0) + (p.f1 - q.f1) * (p.f1 - q.f1)
theorem sq_bd {B : Int} {p q : S_impl_Peg} (hp : Sm B p) (hq : Sm B q) : 0 ≤ sq p q ∧ sq p q ≤ 8 * (B * B) := by
 unfold Sm at *
 unfold sq
 have h1 := mul_bd (x := p.f0 - q.f0) (y := p.f0 - q.f0) (A := 2 * B) (B := 2 * B) (by omega) (by omega)
 have h2 := mul_bd (x := p.f1 - q.f1) (y := p.f1 - q.f1) (A := 2 * B) (B := 2 * B) (by omega) (by omega)
 have h3 := sqr_nonneg (p.f0 - q.f0)
 have h4 := sqr_nonneg (p.f1 - q.f1)
 have e : 2 * B * (2 * B) = 4 * (B * B) := by rw [Int.mul_assoc, Int.mul_left_comm B 2 B, ← Int.mul_assoc]; rfl
 rw [e] at h1 h2
 omega
def sds (l : List S_impl_Peg) : List Int := [sq (pt l 1) (pt l 2), sq (pt l 2) (pt l 0), sq (pt l 0) (pt l 1)]
theorem spec_sq_eq {p q : S_impl_Peg} (hp : Sm 40 p) (hq : Sm 40 q) : spec_trSquare.f p.f0 p.f1 q.f0 q.f1 = some (sq p q) := by
 have hb := sq_bd hp hq
 unfold spec_trSquare.f
 unfold sq at *
 unfold Sm at hp hq
 have h1 := mul_bd (x := p.f0 - q.f0) (y := p.f0 - q.f0) (A := 80) (B := 80) (by omega) (by omega)
 have h2 := mul_bd (x := p.f1 - q.f1) (y := p.f1 - q.f1) (A := 80) (B := 80) (by omega) (by omega)
 simp (disch := omega) only [w64]
theorem impl_sq_eq {p q : S_impl_Peg} (hp : Sm 40 p) (hq : Sm 40 q) : ((impl_Peg_less.f p.f0 p.f1 q.f0 q.f1).bind fun b => impl_Peg_square.f b.1 b.2) = some (sq p q) := by
 rw [← spec_sq_eq hp hq]
 rfl
theorem spec_sides_eq {l : List S_impl_Peg} (h : three l = true) : spec_trSides.f l = some (sds l) := by
 obtain ⟨h3, p0, p1, p2⟩ := three_sm h
 unfold spec_trSides.f sds
 simp (disch := omega) only [if_pos, rd0, rd1, rd2, spec_sq_eq p1 p2, spec_sq_eq p2 p0, spec_sq_eq p0 p1, Option.bind_some]
theorem impl_sides_eq {l : List S_impl_Peg} (h : three l = true) : impl_sides.f l = some (sds l) := by
 rw [← spec_sides_eq h]
 obtain ⟨h3, p0, p1, p2⟩ := three_sm h
 unfold spec_trSides.f impl_sides.f impl_Peg_less.f impl_Peg_square.f spec_trSquare.f
 simp (disch := omega) only [if_pos, Option.bind_some]
theorem sds_bd {l : List S_impl_Peg} (h : three l = true) : (0 ≤ sq (pt l 1) (pt l 2) ∧ sq (pt l 1) (pt l 2) ≤ 12800) ∧ (0 ≤ sq (pt l 2) (pt l 0) ∧ sq (pt l 2) (pt l 0) ≤ 12800) ∧ (0 ≤ sq (pt l 0) (pt l 1) ∧ sq (pt l 0) (pt l 1) ≤ 12800) := by
 obtain ⟨h3, p0, p1, p2⟩ := three_sm h
 exact ⟨sq_bd p1 p2, sq_bd p2 p0, sq_bd p0 p1⟩

end Go.Proofs.Ytfihohongkfibaa.B
