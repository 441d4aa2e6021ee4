-- thin
/- The order of corners, in the reference and in the program; lists told from another corner on. -/
import Derived.Test.YtklhakfmegbobaaX0
import Derived.Test.YtklhakfmegbobaaX10
import Derived.Test.YtklhakfmegbobaaX13
import Derived.Test.YtklhakfmegbobaaBBase
import Derived.Test.YtklhakfmegbobaaBCore
import Derived.Test.YtklhakfmegbobaaBPoly
import Derived.Test.YtklhakfmegbobaaBAsk
import Derived.Test.YtklhakfmegbobaaBTold
namespace Go.Proofs.Ytklhakfmegbobaa.B
open Go.RowKit Go.Proofs.Ytklhakfmegbobaa.XW Go.Proofs.Ytklhakfmegbobaa.X Go.Proofs.YtklhakfmegbobaaW.PrintWords Go.Proofs.YtklhakfmegbobaaW.PrintLast Go.Proofs.Ytklhakfmegbobaa.B
set_option linter.unusedVariables false
set_option linter.unusedSimpArgs false
set_option maxRecDepth 20000

def lss (p q : S_impl_Peg) : Bool := if p.f0 < q.f0 then true else if p.f0 = q.f0 then decide (p.f1 < q.f1) else false
def cmpI (a b : Int) : Int := if a < b then -1 else if a > b then 1 else 0
def cmpP (p q : S_impl_Peg) : Int := if cmpI p.f0 q.f0 = 0 then cmpI p.f1 q.f1 else cmpI p.f0 q.f0
theorem cmpP_lss (p q : S_impl_Peg) : cmpP p q < 0 ↔ lss p q = true := by
 unfold cmpP cmpI lss
 repeat' split
 all_goals simp_all
 all_goals omega
theorem cmp_compare_eq (a b : Int) : cmp_Compare_int.f a b = some (cmpI a b) := by
 unfold cmp_Compare_int.f cmp_isNaN_int.f cmpI
 simp only [bne_self_eq_false, Option.bind_some, Bool.false_eq_true, if_false]
 repeat' split
 all_goals first | rfl | omega
theorem ev_or2 (a b : Int) : Ev (fun k => cmp_Or_int.f k [a, b]) (if a = 0 then b else a) := by
 unfold cmp_Or_int.f
 refine Ev.succ ?_
 simp only [cmp_Or_int.l0, List.length_cons, List.length_nil]
 simp (disch := omega) only [if_pos, w64]
 have e0 : rd [a, b] 0 = a := rfl
 have e1 : rd [a, b] (0 + 1) = b := rfl
 rw [e0]
 by_cases h : a = 0
 ·simp only [if_pos h]
  refine Ev.succ ?_
  simp only [cmp_Or_int.l0, List.length_cons, List.length_nil]
  simp (disch := omega) only [if_pos, w64]
  rw [e1]
  by_cases hb : b = 0
  ·simp only [if_pos hb]
   refine Ev.succ ?_
   simp only [cmp_Or_int.l0, List.length_cons, List.length_nil]
   simp (disch := omega) only [if_neg]
   exact Ev.some hb.symm
  ·simp only [if_neg hb]
   exact Ev.now _
 ·simp only [if_neg h]
  exact Ev.now _
theorem ev_compare (p q : S_impl_Peg) : Ev (fun k => impl_comparePegs.f k p.f0 p.f1 q.f0 q.f1) (cmpP p q) := by
 unfold impl_comparePegs.f
 simp only [cmp_compare_eq, Option.bind_some]
 exact Ev.bind (ev_or2 _ _) (Ev.now _)
theorem less_eq (p q : S_impl_Peg) : spec_pgLess.f p.f0 p.f1 q.f0 q.f1 = some (lss p q) := by
 unfold spec_pgLess.f lss
 repeat' split
 all_goals first | rfl | omega
theorem lss_iff {p q : S_impl_Peg} : lss p q = true ↔ (p.f0 < q.f0 ∨ (p.f0 = q.f0 ∧ p.f1 < q.f1)) := by
 unfold lss
 repeat' split
 all_goals first | omega | (simp; omega)
theorem tld_turn {l : List S_impl_Peg} {a : Nat} (h : a ≤ l.length) : l.drop a ++ l.take a = tld l a 1 := by
 refine List.ext_getElem? fun j => ?_
 by_cases hj : j < l.length
 ·have e1 : (tld l a 1)[j]? = some (pt l (tldi l.length a 1 j)) := by
   unfold tld
   simp [hj]
  have e2 : tldi l.length a 1 j = if a + j < l.length then a + j else a + j - l.length := by
   unfold tldi
   split
   ·rw [show (a : Int) + (j : Int) * 1 = ((a + j : Nat) : Int) by omega, Int.emod_eq_of_lt (by omega) (by omega)]
    omega
   ·rw [show (a : Int) + (j : Int) * 1 = ((a + j - l.length : Nat) : Int) + (l.length : Int) by omega, Int.add_emod_right, Int.emod_eq_of_lt (by omega) (by omega)]
    omega
  have e3 : ∀ i, i < l.length → l[i]? = some (pt l i) := fun i hi => by
   unfold pt
   rw [List.getD_eq_getElem?_getD, List.getElem?_eq_getElem hi]
   rfl
  rw [e1, e2]
  by_cases c : a + j < l.length
  ·rw [if_pos c, List.getElem?_append_left (by simp; omega), List.getElem?_drop, e3 _ c]
  ·rw [if_neg c, List.getElem?_append_right (by simp; omega), List.getElem?_take_of_lt (by simp; omega)]
   simp only [List.length_drop]
   rw [show j - (l.length - a) = a + j - l.length by omega, e3 _ (by omega)]
 ·rw [List.getElem?_eq_none (by simp; omega), List.getElem?_eq_none (by rw [tld_length]; omega)]
theorem tldi1 {n a j : Nat} (ha : a < n) (hj : j < n) : tldi n (a : Int) 1 j = if a + j < n then a + j else a + j - n := by
 unfold tldi
 split
 ·rw [show (a : Int) + (j : Int) * 1 = ((a + j : Nat) : Int) by omega, Int.emod_eq_of_lt (by omega) (by omega)]
  omega
 ·rw [show (a : Int) + (j : Int) * 1 = ((a + j - n : Nat) : Int) + (n : Int) by omega, Int.add_emod_right, Int.emod_eq_of_lt (by omega) (by omega)]
  omega
theorem tldi_nx {n a i : Nat} (ha : a < n) (hi : i < n) : tldi n (a : Int) 1 (nx n i) = nx n (tldi n (a : Int) 1 i) := by
 rw [tldi1 ha (nx_lt hi), tldi1 ha hi]
 unfold nx
 repeat' split
 all_goals omega
theorem tld_nx {l : List S_impl_Peg} {a i : Nat} (ha : a < l.length) (hi : i < l.length) : pt (tld l a 1) (nx l.length i) = pt l (nx l.length (tldi l.length a 1 i)) := by
 rw [tld_pt _ _ (nx_lt hi), tldi_nx ha hi]
theorem tld_zero (l : List S_impl_Peg) : tld l ((0 : Nat) : Int) 1 = l := by
 rw [← tld_turn (Nat.zero_le _)]
 simp

end Go.Proofs.Ytklhakfmegbobaa.B
