-- thin
/- The order of corners, in the reference and in the program; lists told from another corner on. -/
import Derived.Test.YtphkphjddkjabaaX0
import Derived.Test.YtphkphjddkjabaaBBase
import Derived.Test.YtphkphjddkjabaaBCore
import Derived.Test.YtphkphjddkjabaaBPoly
import Derived.Test.YtphkphjddkjabaaBAsk
import Derived.Test.YtphkphjddkjabaaBTold
namespace Go.Proofs.Ytphkphjddkjabaa.B
open Go.RowKit Go.Proofs.Ytphkphjddkjabaa.XW Go.Proofs.Ytphkphjddkjabaa.X Go.Proofs.YtphkphjddkjabaaW.PrintWords Go.Proofs.YtphkphjddkjabaaW.PrintLast Go.Proofs.Ytphkphjddkjabaa.B
set_option linter.unusedVariables false
set_option linter.unusedSimpArgs false
set_option maxRecDepth 20000

theorem tld_turn {l : List S_impl_Peg} {a : Nat} (h : a ≤ l.length) : l.drop a ++ l.take a = tld l a 1 := by
 refine List.ext_getElem? fun j => ?_
 by_cases hj : j < l.length
 ·have e1 : (tld l a 1)[j]? = some (pt l (tldi l.length a 1 j)) := by
   unfold tld
   simp [hj]
  have e2 : tldi l.length a 1 j = if a + j < l.length then a + j else a + j - l.length := by
   unfold tldi
   split
   ·rw [show (a : Int) + (j : Int) * 1 = ((a + j : Nat) : Int) by omega, Int.emod_eq_of_lt (by omega) (by omega)]
    omega
   ·rw [show (a : Int) + (j : Int) * 1 = ((a + j - l.length : Nat) : Int) + (l.length : Int) by omega, Int.add_emod_right, Int.emod_eq_of_lt (by omega) (by omega)]
    omega
  have e3 : ∀ i, i < l.length → l[i]? = some (pt l i) := fun i hi => by
   unfold pt
   rw [List.getD_eq_getElem?_getD, List.getElem?_eq_getElem hi]
   rfl
  rw [e1, e2]
  by_cases c : a + j < l.length
  ·rw [if_pos c, List.getElem?_append_left (by simp; omega), List.getElem?_drop, e3 _ c]
  ·rw [if_neg c, List.getElem?_append_right (by simp; omega), List.getElem?_take_of_lt (by simp; omega)]
   simp only [List.length_drop]
   rw [show j - (l.length - a) = a + j - l.length by omega, e3 _ (by omega)]
 ·rw [List.getElem?_eq_none (by simp; omega), List.getElem?_eq_none (by rw [tld_length]; omega)]
theorem tldi1 {n a j : Nat} (ha : a < n) (hj : j < n) : tldi n (a : Int) 1 j = if a + j < n then a + j else a + j - n := by
 unfold tldi
 split
 ·rw [show (a : Int) + (j : Int) * 1 = ((a + j : Nat) : Int) by omega, Int.emod_eq_of_lt (by omega) (by omega)]
  omega
 ·rw [show (a : Int) + (j : Int) * 1 = ((a + j - n : Nat) : Int) + (n : Int) by omega, Int.add_emod_right, Int.emod_eq_of_lt (by omega) (by omega)]
  omega
theorem tldi_nx {n a i : Nat} (ha : a < n) (hi : i < n) : tldi n (a : Int) 1 (nx n i) = nx n (tldi n (a : Int) 1 i) := by
 rw [tldi1 ha (nx_lt hi), tldi1 ha hi]
 unfold nx
 repeat' split
 all_goals omega
theorem tld_nx {l : List S_impl_Peg} {a i : Nat} (ha : a < l.length) (hi : i < l.length) : pt (tld l a 1) (nx l.length i) = pt l (nx l.length (tldi l.length a 1 i)) := by
 rw [tld_pt _ _ (nx_lt hi), tldi_nx ha hi]
theorem tld_zero (l : List S_impl_Peg) : tld l ((0 : Nat) : Int) 1 = l := by
 rw [← tld_turn (Nat.zero_le _)]
 simp

end Go.Proofs.Ytphkphjddkjabaa.B
