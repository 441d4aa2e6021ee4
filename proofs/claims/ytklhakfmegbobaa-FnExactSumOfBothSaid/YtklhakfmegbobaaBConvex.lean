-- thin
/- Polygons all of whose corners turn to one side. -/
import Derived.Test.YtklhakfmegbobaaX0
import Derived.Test.YtklhakfmegbobaaX8
import Derived.Test.YtklhakfmegbobaaX20
import Derived.Test.YtklhakfmegbobaaBBase
import Derived.Test.YtklhakfmegbobaaBCore
import Derived.Test.YtklhakfmegbobaaBPoly
import Derived.Test.YtklhakfmegbobaaBAsk
import Derived.Test.YtklhakfmegbobaaBArea
namespace Go.Proofs.Ytklhakfmegbobaa.B
open Go.RowKit Go.Proofs.Ytklhakfmegbobaa.XW Go.Proofs.Ytklhakfmegbobaa.X Go.Proofs.YtklhakfmegbobaaW.PrintWords Go.Proofs.YtklhakfmegbobaaW.PrintLast Go.Proofs.Ytklhakfmegbobaa.B
set_option linter.unusedVariables false
set_option linter.unusedSimpArgs false
set_option maxRecDepth 20000

open Classical in
noncomputable def conv (l : List S_impl_Peg) : Bool := decide (∀ i, i < l.length → sgn (tn (pt l (pv l.length i)) (pt l i) (pt l (nx l.length i))) = sgn (ar l))
theorem conv_false {l : List S_impl_Peg} (h : ¬ ∀ i, i < l.length → sgn (tn (pt l (pv l.length i)) (pt l i) (pt l (nx l.length i))) = sgn (ar l)) : false = conv l := by
 unfold conv
 symm
 rw [decide_eq_false_iff_not]
 exact h
theorem conv_true {l : List S_impl_Peg} (h : ∀ i, i < l.length → sgn (tn (pt l (pv l.length i)) (pt l i) (pt l (nx l.length i))) = sgn (ar l)) : true = conv l := by
 unfold conv
 symm
 rw [decide_eq_true_iff]
 exact h
theorem ev_impl_convex {l : List S_impl_Peg} (ok : Poly l) : Ev (fun k => impl_isConvex.f k l) (conv l) := by
 unfold impl_isConvex.f
 refine Ev.bind ok.area ?_
 simp only [impl_sign_eq, Option.bind_some]
 have h10 := ok.hi
 have go : ∀ (d i : Nat), i + d = l.length → (∀ j, j < i → sgn (tn (pt l (pv l.length j)) (pt l j) (pt l (nx l.length j))) = sgn (ar l)) → Ev (fun k => impl_isConvex.l0 k l (sgn (ar l)) l l.length i) (conv l) := by
  intro d
  induction d with
  | zero =>
   intro i hi hj
   refine Ev.succ ?_
   simp (disch := omega) only [impl_isConvex.l0, if_neg]
   exact Ev.some (conv_true fun j h => hj j (by omega))
  | succ d ih =>
   intro i hi hj
   refine Ev.succ ?_
   have hil : i < l.length := by omega
   simp (disch := omega) only [impl_isConvex.l0, if_pos, w64, at_prev l i hil (by omega), at_next l i hil (by omega), Option.bind_some, rd_pt, impl_turn_eq (ok.big _ (pv_lt hil)) (ok.big i hil) (ok.big _ (nx_lt hil)), impl_sign_eq]
   split
   ·rename_i h
    refine ih (i + 1) (by omega) fun j hj' => ?_
    by_cases e : j = i
    ·subst e
     exact h
    ·exact hj j (by omega)
   ·rename_i h
    exact Ev.some (conv_false fun hh => h (hh i hil))
 exact go l.length 0 (by omega) (fun j h => by omega)
theorem ev_spec_convex {l : List S_impl_Peg} (ok : Poly l) : Ev (fun k => spec_pgConvex.f k l) (conv l) := by
 unfold spec_pgConvex.f
 refine Ev.bind ok.sarea ?_
 simp only [spec_sign_eq, Option.bind_some]
 have h10 := ok.hi
 have h3 := ok.lo
 have go : ∀ (d i : Nat), i + d = l.length → (∀ j, j < i → sgn (tn (pt l j) (pt l (nx l.length j)) (pt l (nx l.length (nx l.length j)))) = sgn (ar l)) → Ev (fun k => spec_pgConvex.l0 k l l.length (sgn (ar l)) l l.length i) (conv l) := by
  intro d
  induction d with
  | zero =>
   intro i hi hj
   refine Ev.succ ?_
   simp (disch := omega) only [spec_pgConvex.l0, if_neg]
   refine Ev.some (conv_true fun j h => ?_)
   have := hj (pv l.length j) (by have := pv_lt h; omega)
   rw [nx_pv h] at this
   exact this
  | succ d ih =>
   intro i hi hj
   refine Ev.succ ?_
   have hil : i < l.length := by omega
   have n1 := nx_lt hil
   have n2 := nx_lt n1
   simp (disch := omega) only [spec_pgConvex.l0, if_pos, if_neg, w64]
   simp (disch := omega) only [tmod1, tmod2]
   simp (disch := omega) only [if_pos, rd_pt, spec_turn_eq (ok.big i hil) (ok.big _ n1) (ok.big _ n2), Option.bind_some, spec_sign_eq]
   split
   ·rename_i h
    refine ih (i + 1) (by omega) fun j hj' => ?_
    by_cases e : j = i
    ·subst e
     exact h
    ·exact hj j (by omega)
   ·rename_i h
    refine Ev.some (conv_false fun hh => h ?_)
    have := hh (nx l.length i) n1
    rw [pv_nx hil] at this
    exact this
 exact go l.length 0 (by omega) (fun j h => by omega)

end Go.Proofs.Ytklhakfmegbobaa.B
