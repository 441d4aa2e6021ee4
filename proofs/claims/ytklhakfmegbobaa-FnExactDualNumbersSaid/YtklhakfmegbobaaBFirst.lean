-- thin
/- The first corner in order, in the reference and in the program. -/
import Derived.Test.YtklhakfmegbobaaX0
import Derived.Test.YtklhakfmegbobaaX5
import Derived.Test.YtklhakfmegbobaaX6
import Derived.Test.YtklhakfmegbobaaX10
import Derived.Test.YtklhakfmegbobaaX11
import Derived.Test.YtklhakfmegbobaaBBase
import Derived.Test.YtklhakfmegbobaaBCore
import Derived.Test.YtklhakfmegbobaaBPoly
import Derived.Test.YtklhakfmegbobaaBAsk
import Derived.Test.YtklhakfmegbobaaBTold
namespace Go.Proofs.Ytklhakfmegbobaa.B
open Go.RowKit Go.Proofs.Ytklhakfmegbobaa.XW Go.Proofs.Ytklhakfmegbobaa.X Go.Proofs.YtklhakfmegbobaaW.PrintWords Go.Proofs.YtklhakfmegbobaaW.PrintLast Go.Proofs.Ytklhakfmegbobaa.B
set_option linter.unusedVariables false
set_option linter.unusedSimpArgs false
set_option maxRecDepth 20000

def lss (p q : S_impl_Peg) : Bool := if p.f0 < q.f0 then true else if p.f0 = q.f0 then decide (p.f1 < q.f1) else false
def cmpI (a b : Int) : Int := if a < b then -1 else if a > b then 1 else 0
def cmpP (p q : S_impl_Peg) : Int := if cmpI p.f0 q.f0 = 0 then cmpI p.f1 q.f1 else cmpI p.f0 q.f0
theorem cmpP_lss (p q : S_impl_Peg) : cmpP p q < 0 ↔ lss p q = true := by
 unfold cmpP cmpI lss
 repeat' split
 all_goals simp_all
 all_goals omega
theorem cmp_compare_eq (a b : Int) : cmp_Compare_int.f a b = some (cmpI a b) := by
 unfold cmp_Compare_int.f cmp_isNaN_int.f cmpI
 simp only [bne_self_eq_false, Option.bind_some, Bool.false_eq_true, if_false]
 repeat' split
 all_goals first | rfl | omega
theorem ev_or2 (a b : Int) : Ev (fun k => cmp_Or_int.f k [a, b]) (if a = 0 then b else a) := by
 unfold cmp_Or_int.f
 refine Ev.succ ?_
 simp only [cmp_Or_int.l0, List.length_cons, List.length_nil]
 simp (disch := omega) only [if_pos, w64]
 have e0 : rd [a, b] 0 = a := rfl
 have e1 : rd [a, b] (0 + 1) = b := rfl
 rw [e0]
 by_cases h : a = 0
 ·simp only [if_pos h]
  refine Ev.succ ?_
  simp only [cmp_Or_int.l0, List.length_cons, List.length_nil]
  simp (disch := omega) only [if_pos, w64]
  rw [e1]
  by_cases hb : b = 0
  ·simp only [if_pos hb]
   refine Ev.succ ?_
   simp only [cmp_Or_int.l0, List.length_cons, List.length_nil]
   simp (disch := omega) only [if_neg]
   exact Ev.some hb.symm
  ·simp only [if_neg hb]
   exact Ev.now _
 ·simp only [if_neg h]
  exact Ev.now _
theorem ev_compare (p q : S_impl_Peg) : Ev (fun k => impl_comparePegs.f k p.f0 p.f1 q.f0 q.f1) (cmpP p q) := by
 unfold impl_comparePegs.f
 simp only [cmp_compare_eq, Option.bind_some]
 exact Ev.bind (ev_or2 _ _) (Ev.now _)
theorem less_eq (p q : S_impl_Peg) : spec_pgLess.f p.f0 p.f1 q.f0 q.f1 = some (lss p q) := by
 unfold spec_pgLess.f lss
 repeat' split
 all_goals first | rfl | omega
/-- The place of the first one of the first i corners. -/
def fiN (l : List S_impl_Peg) : Nat → Nat
 | 0 => 0
 | i + 1 => if lss (pt l i) (pt l (fiN l i)) = true then i else fiN l i
def fi (l : List S_impl_Peg) : Nat := fiN l l.length
theorem fiN_lt {l : List S_impl_Peg} : ∀ i, 0 < i → fiN l i < i := by
 intro i
 induction i with
 | zero => omega
 | succ i ih =>
  intro h
  unfold fiN
  split
  ·omega
  ·by_cases c : 0 < i
   ·have := ih c
    omega
   ·obtain rfl : i = 0 := by omega
    show (0 : Nat) < 0 + 1
    omega
theorem fi_lt {l : List S_impl_Peg} (h : 0 < l.length) : fi l < l.length := fiN_lt _ h
theorem fiN_le (l : List S_impl_Peg) (i : Nat) : fiN l i ≤ i := by
 by_cases h : 0 < i
 ·have := fiN_lt (l := l) i h
  omega
 ·obtain rfl : i = 0 := by omega
  exact Nat.le_refl _
theorem fi_le (l : List S_impl_Peg) : fi l ≤ l.length := fiN_le _ _
theorem ev_impl_first (l : List S_impl_Peg) (hn : l.length ≤ 1099511627776) : Ev (fun k => impl_first.f k l) (fi l : Int) := by
 unfold impl_first.f
 have go : ∀ (e i : Nat), i + e = l.length → Ev (fun k => impl_first.l0 k l (fiN l i) l l.length i) (fi l : Int) := by
  intro e
  induction e with
  | zero =>
   intro i hi
   refine Ev.succ ?_
   obtain rfl : i = l.length := by omega
   simp (disch := omega) only [impl_first.l0, if_neg]
   exact Ev.now _
  | succ e ih =>
   intro i hi
   refine Ev.succ ?_
   have hf : fiN l i < l.length := by have := fiN_le l i; omega
   simp (disch := omega) only [impl_first.l0, if_pos, rd_pt, w64]
   refine Ev.bind (ev_compare _ _) ?_
   have := ih (i + 1) (by omega)
   unfold fiN at this
   by_cases h : lss (pt l i) (pt l (fiN l i)) = true
   ·rw [if_pos h] at this
    simp only [if_pos ((cmpP_lss _ _).2 h)]
    exact this
   ·rw [if_neg h] at this
    simp only [if_neg (fun c => h ((cmpP_lss _ _).1 c))]
    exact this
 exact go l.length 0 (by omega)
theorem tld_turn {l : List S_impl_Peg} {a : Nat} (h : a ≤ l.length) : l.drop a ++ l.take a = tld l a 1 := by
 refine List.ext_getElem? fun j => ?_
 by_cases hj : j < l.length
 ·have e1 : (tld l a 1)[j]? = some (pt l (tldi l.length a 1 j)) := by
   unfold tld
   simp [hj]
  have e2 : tldi l.length a 1 j = if a + j < l.length then a + j else a + j - l.length := by
   unfold tldi
   split
   ·rw [show (a : Int) + (j : Int) * 1 = ((a + j : Nat) : Int) by omega, Int.emod_eq_of_lt (by omega) (by omega)]
    omega
   ·rw [show (a : Int) + (j : Int) * 1 = ((a + j - l.length : Nat) : Int) + (l.length : Int) by omega, Int.add_emod_right, Int.emod_eq_of_lt (by omega) (by omega)]
    omega
  have e3 : ∀ i, i < l.length → l[i]? = some (pt l i) := fun i hi => by
   unfold pt
   rw [List.getD_eq_getElem?_getD, List.getElem?_eq_getElem hi]
   rfl
  rw [e1, e2]
  by_cases c : a + j < l.length
  ·rw [if_pos c, List.getElem?_append_left (by simp; omega), List.getElem?_drop, e3 _ c]
  ·rw [if_neg c, List.getElem?_append_right (by simp; omega), List.getElem?_take_of_lt (by simp; omega)]
   simp only [List.length_drop]
   rw [show j - (l.length - a) = a + j - l.length by omega, e3 _ (by omega)]
 ·rw [List.getElem?_eq_none (by simp; omega), List.getElem?_eq_none (by rw [tld_length]; omega)]
/-- The reference tells a list from its first corner on. -/
theorem ev_spec_first0 (l : List S_impl_Peg) (hn : l.length ≤ 100000) : Ev (fun k => spec_pgFirst.j0 k l) (tld l (fi l) 1) := by
 refine Ev.succ ?_
 simp only [spec_pgFirst.j0]
 have go : ∀ (e i : Nat), i + e = l.length → Ev (fun k => spec_pgFirst.l0 k l (fiN l i) l l.length i) (tld l (fi l) 1) := by
  intro e
  induction e with
  | zero =>
   intro i hi
   refine Ev.succ ?_
   obtain rfl : i = l.length := by omega
   have hf : fiN l l.length ≤ l.length := fiN_le _ _
   simp (disch := omega) only [spec_pgFirst.l0, if_neg, Option.bind_some, if_pos, Int.toNat_natCast]
   simp only [List.nil_append, List.length_nil, List.length_drop, List.length_take]
   simp (disch := omega) only [if_pos]
   exact Ev.some (tld_turn hf)
  | succ e ih =>
   intro i hi
   refine Ev.succ ?_
   have hf : fiN l i < l.length := by have := fiN_le l i; omega
   simp (disch := omega) only [spec_pgFirst.l0, if_pos, rd_pt, w64, less_eq, Option.bind_some]
   have := ih (i + 1) (by omega)
   unfold fiN at this
   by_cases h : lss (pt l i) (pt l (fiN l i)) = true
   ·rw [if_pos h] at this
    simp only [if_pos h]
    exact this
   ·rw [if_neg h] at this
    simp only [if_neg h]
    exact this
 exact go l.length 0 (by omega)
/-- The reference's way to tell a list of no area below zero. -/
theorem ev_spec_first (l : List S_impl_Peg) {a : Int} (hn : l.length ≤ 100000) (ha : Ev (fun k => spec_pgArea.f k l) a) (h0 : 0 ≤ a) : Ev (fun k => spec_pgFirst.f k l) (tld l (fi l) 1) := by
 unfold spec_pgFirst.f
 refine Ev.bind ha ?_
 simp (disch := omega) only [if_neg]
 exact ev_spec_first0 l hn

end Go.Proofs.Ytklhakfmegbobaa.B
