-- thin
/- Pegs on the lines of a polygon. -/
import Derived.Test.YtklhakfmegbobaaX0
import Derived.Test.YtklhakfmegbobaaX9
import Derived.Test.YtklhakfmegbobaaX21
import Derived.Test.YtklhakfmegbobaaBBase
import Derived.Test.YtklhakfmegbobaaBCore
import Derived.Test.YtklhakfmegbobaaBPoly
import Derived.Test.YtklhakfmegbobaaBAsk
import Derived.Test.YtklhakfmegbobaaBArea
import Derived.Test.YtklhakfmegbobaaBSteps
namespace Go.Proofs.Ytklhakfmegbobaa.B
open Go.RowKit Go.Proofs.Ytklhakfmegbobaa.XW Go.Proofs.Ytklhakfmegbobaa.X Go.Proofs.YtklhakfmegbobaaW.PrintWords Go.Proofs.YtklhakfmegbobaaW.PrintLast Go.Proofs.Ytklhakfmegbobaa.B
set_option linter.unusedVariables false
set_option linter.unusedSimpArgs false
set_option maxRecDepth 20000

def rn (l : List S_impl_Peg) : Int := sumN (fun i => st (pt l i) (pt l (nx l.length i))) l.length
theorem sumN_nn {f : Nat → Int} {B : Int} {m : Nat} (h : ∀ i, i < m → 0 ≤ f i ∧ f i ≤ B) : 0 ≤ sumN f m ∧ sumN f m ≤ B * m := by
 induction m with
 | zero => simp [sumN]
 | succ m ih =>
  have h1 := ih (fun i hi => h i (by omega))
  have h2 := h m (by omega)
  have e : B * ((m + 1 : Nat) : Int) = B * m + B := by rw [Int.natCast_add, Int.mul_add]; simp
  rw [e]
  show 0 ≤ sumN f m + f m ∧ sumN f m + f m ≤ B * m + B
  omega
section
variable (l : List S_impl_Peg) (hn : l.length ≤ 100000) (hp : ∀ i, i < l.length → Sm 1000000 (pt l i))
include hn hp in
theorem ev_impl_around : Ev (fun k => impl_around.f k l) (rn l) := by
 unfold impl_around.f
 have go : ∀ (d i : Nat), i + d = l.length → Ev (fun k => impl_around.l0 k l (sumN (fun i => st (pt l i) (pt l (nx l.length i))) i) l l.length i) (rn l) := by
  intro d
  induction d with
  | zero =>
   intro i hi
   refine Ev.succ ?_
   obtain rfl : i = l.length := by omega
   simp (disch := omega) only [impl_around.l0, if_neg]
   exact Ev.now _
  | succ d ih =>
   intro i hi
   refine Ev.succ ?_
   have hil : i < l.length := by omega
   have hb := sumN_nn (f := fun i => st (pt l i) (pt l (nx l.length i))) (B := 4000000) (m := i) (fun j hj => by
    have := st_bd (hp j (by omega)) (hp _ (nx_lt (n := l.length) (i := j) (by omega)))
    omega)
   have hc := st_bd (hp i hil) (hp _ (nx_lt hil))
   simp (disch := omega) only [impl_around.l0, if_pos, w64, at_next l i hil (by omega), Option.bind_some, rd_pt]
   refine Ev.bind (ev_impl_steps (hp i hil) (hp _ (nx_lt hil))) ?_
   simp (disch := omega) only [w64]
   exact ih (i + 1) (by omega)
 exact go l.length 0 (by omega)
include hn hp in
theorem ev_spec_round : Ev (fun k => spec_pgRound.f k l) (rn l) := by
 unfold spec_pgRound.f
 have go : ∀ (d i : Nat), i + d = l.length → Ev (fun k => spec_pgRound.l0 k l (sumN (fun i => st (pt l i) (pt l (nx l.length i))) i) l l.length i) (rn l) := by
  intro d
  induction d with
  | zero =>
   intro i hi
   refine Ev.succ ?_
   obtain rfl : i = l.length := by omega
   simp (disch := omega) only [spec_pgRound.l0, if_neg]
   exact Ev.now _
  | succ d ih =>
   intro i hi
   refine Ev.succ ?_
   have hil : i < l.length := by omega
   have hb := sumN_nn (f := fun i => st (pt l i) (pt l (nx l.length i))) (B := 4000000) (m := i) (fun j hj => by
    have := st_bd (hp j (by omega)) (hp _ (nx_lt (n := l.length) (i := j) (by omega)))
    omega)
   have hc := st_bd (hp i hil) (hp _ (nx_lt hil))
   have n1 := nx_lt hil
   simp (disch := omega) only [spec_pgRound.l0, if_pos, if_neg, w64]
   simp (disch := omega) only [tmod1]
   simp (disch := omega) only [if_pos, rd_pt]
   refine Ev.bind (ev_spec_step (hp i hil) (hp _ n1)) ?_
   simp (disch := omega) only [w64]
   exact ih (i + 1) (by omega)
 exact go l.length 0 (by omega)
end
namespace Poly
variable {l : List S_impl_Peg} (h : Poly l)
include h
theorem round : Ev (fun k => impl_around.f k l) (rn l) := ev_impl_around l (by have := h.hi; omega) (fun i hi => h.big i hi)
theorem sround : Ev (fun k => spec_pgRound.f k l) (rn l) := ev_spec_round l (by have := h.hi; omega) (fun i hi => h.big i hi)
theorem round_bd : 0 ≤ rn l ∧ rn l ≤ 1600 := by
 have := sumN_nn (f := fun i => st (pt l i) (pt l (nx l.length i))) (B := 160) (m := l.length) (fun i hi => st_bd (h.pegs i hi) (h.pegs _ (nx_lt hi)))
 have := h.hi
 unfold rn
 omega
end Poly

end Go.Proofs.Ytklhakfmegbobaa.B
