-- thin
/- Lists of numbers copied and compared. -/
import Derived.Test.YtklhakfmegbobaaX0
import Derived.Test.YtklhakfmegbobaaX2
import Derived.Test.YtklhakfmegbobaaBBase
namespace Go.Proofs.Ytklhakfmegbobaa.B
open Go.RowKit Go.Proofs.Ytklhakfmegbobaa.XW Go.Proofs.Ytklhakfmegbobaa.X Go.Proofs.YtklhakfmegbobaaW.PrintWords Go.Proofs.YtklhakfmegbobaaW.PrintLast Go.Proofs.Ytklhakfmegbobaa.B
set_option linter.unusedVariables false
set_option linter.unusedSimpArgs false
set_option maxRecDepth 20000

theorem rd_nat (l : List Int) (i : Nat) : rd l (i : Int) = l.getD i 0 := rfl
theorem ev_toIntS (l : List Int) (hn : l.length ≤ 1048576) : Ev (fun k => laws_toIntS.f k l) l := by
 unfold laws_toIntS.f
 simp (disch := omega) only [if_pos]
 have go : ∀ (d i : Nat) (x : List Int), i + d = l.length → x.length = l.length → (∀ j, j < i → x[j]? = l[j]?) → Ev (fun k => laws_toIntS.l0 k l x i) l := by
  intro d
  induction d with
  | zero =>
   intro i x hi hx hj
   refine Ev.succ ?_
   simp (disch := omega) only [laws_toIntS.l0, if_neg]
   refine Ev.some ?_
   refine List.ext_getElem? fun j => ?_
   by_cases h : j < i
   ·exact hj j h
   ·rw [List.getElem?_eq_none (by omega), List.getElem?_eq_none (by omega)]
  | succ d ih =>
   intro i x hi hx hj
   refine Ev.succ ?_
   simp (disch := omega) only [laws_toIntS.l0, if_pos, w64, Int.toNat_natCast]
   refine ih (i + 1) _ (by omega) (by simp [hx]) fun j hj' => ?_
   by_cases e : j = i
   ·subst e
    have hlt : j < l.length := by omega
    rw [List.getElem?_set_self (by omega), rd_nat, List.getD_eq_getElem?_getD, List.getElem?_eq_getElem hlt]
    rfl
   ·rw [List.getElem?_set_ne (by omega)]
    exact hj j (by omega)
 exact go l.length 0 _ (by omega) (by simp) (fun j h => by omega)

end Go.Proofs.Ytklhakfmegbobaa.B
