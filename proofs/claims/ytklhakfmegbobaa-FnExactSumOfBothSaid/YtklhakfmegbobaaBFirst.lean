-- thin
/- The first corner in order, in the reference and in the program. -/
import Derived.Test.YtklhakfmegbobaaX0
import Derived.Test.YtklhakfmegbobaaX7
import Derived.Test.YtklhakfmegbobaaX11
import Derived.Test.YtklhakfmegbobaaX14
import Derived.Test.YtklhakfmegbobaaBBase
import Derived.Test.YtklhakfmegbobaaBCore
import Derived.Test.YtklhakfmegbobaaBPoly
import Derived.Test.YtklhakfmegbobaaBAsk
import Derived.Test.YtklhakfmegbobaaBTold
import Derived.Test.YtklhakfmegbobaaBOrder
namespace Go.Proofs.Ytklhakfmegbobaa.B
open Go.RowKit Go.Proofs.Ytklhakfmegbobaa.XW Go.Proofs.Ytklhakfmegbobaa.X Go.Proofs.YtklhakfmegbobaaW.PrintWords Go.Proofs.YtklhakfmegbobaaW.PrintLast Go.Proofs.Ytklhakfmegbobaa.B
set_option linter.unusedVariables false
set_option linter.unusedSimpArgs false
set_option maxRecDepth 20000

/-- The place of the first one of the first i corners. -/
def fiN (l : List S_impl_Peg) : Nat → Nat
 | 0 => 0
 | i + 1 => if lss (pt l i) (pt l (fiN l i)) = true then i else fiN l i
def fi (l : List S_impl_Peg) : Nat := fiN l l.length
theorem fiN_lt {l : List S_impl_Peg} : ∀ i, 0 < i → fiN l i < i := by
 intro i
 induction i with
 | zero => omega
 | succ i ih =>
  intro h
  unfold fiN
  split
  ·omega
  ·by_cases c : 0 < i
   ·have := ih c
    omega
   ·obtain rfl : i = 0 := by omega
    show (0 : Nat) < 0 + 1
    omega
theorem fi_lt {l : List S_impl_Peg} (h : 0 < l.length) : fi l < l.length := fiN_lt _ h
theorem fiN_le (l : List S_impl_Peg) (i : Nat) : fiN l i ≤ i := by
 by_cases h : 0 < i
 ·have := fiN_lt (l := l) i h
  omega
 ·obtain rfl : i = 0 := by omega
  exact Nat.le_refl _
theorem fi_le (l : List S_impl_Peg) : fi l ≤ l.length := fiN_le _ _
theorem ev_impl_first (l : List S_impl_Peg) (hn : l.length ≤ 1099511627776) : Ev (fun k => impl_first.f k l) (fi l : Int) := by
 unfold impl_first.f
 have go : ∀ (e i : Nat), i + e = l.length → Ev (fun k => impl_first.l0 k l (fiN l i) l l.length i) (fi l : Int) := by
  intro e
  induction e with
  | zero =>
   intro i hi
   refine Ev.succ ?_
   obtain rfl : i = l.length := by omega
   simp (disch := omega) only [impl_first.l0, if_neg]
   exact Ev.now _
  | succ e ih =>
   intro i hi
   refine Ev.succ ?_
   have hf : fiN l i < l.length := by have := fiN_le l i; omega
   simp (disch := omega) only [impl_first.l0, if_pos, rd_pt, w64]
   refine Ev.bind (ev_compare _ _) ?_
   have := ih (i + 1) (by omega)
   unfold fiN at this
   by_cases h : lss (pt l i) (pt l (fiN l i)) = true
   ·rw [if_pos h] at this
    simp only [if_pos ((cmpP_lss _ _).2 h)]
    exact this
   ·rw [if_neg h] at this
    simp only [if_neg (fun c => h ((cmpP_lss _ _).1 c))]
    exact this
 exact go l.length 0 (by omega)
/-- The reference tells a list from its first corner on. -/
theorem ev_spec_first0 (l : List S_impl_Peg) (hn : l.length ≤ 100000) : Ev (fun k => spec_pgFirst.j0 k l) (tld l (fi l) 1) := by
 refine Ev.succ ?_
 simp only [spec_pgFirst.j0]
 have go : ∀ (e i : Nat), i + e = l.length → Ev (fun k => spec_pgFirst.l0 k l (fiN l i) l l.length i) (tld l (fi l) 1) := by
  intro e
  induction e with
  | zero =>
   intro i hi
   refine Ev.succ ?_
   obtain rfl : i = l.length := by omega
   have hf : fiN l l.length ≤ l.length := fiN_le _ _
   simp (disch := omega) only [spec_pgFirst.l0, if_neg, Option.bind_some, if_pos, Int.toNat_natCast]
   simp only [List.nil_append, List.length_nil, List.length_drop, List.length_take]
   simp (disch := omega) only [if_pos]
   exact Ev.some (tld_turn hf)
  | succ e ih =>
   intro i hi
   refine Ev.succ ?_
   have hf : fiN l i < l.length := by have := fiN_le l i; omega
   simp (disch := omega) only [spec_pgFirst.l0, if_pos, rd_pt, w64, less_eq, Option.bind_some]
   have := ih (i + 1) (by omega)
   unfold fiN at this
   by_cases h : lss (pt l i) (pt l (fiN l i)) = true
   ·rw [if_pos h] at this
    simp only [if_pos h]
    exact this
   ·rw [if_neg h] at this
    simp only [if_neg h]
    exact this
 exact go l.length 0 (by omega)
/-- The reference's way to tell a list of no area below zero. -/
theorem ev_spec_first (l : List S_impl_Peg) {a : Int} (hn : l.length ≤ 100000) (ha : Ev (fun k => spec_pgArea.f k l) a) (h0 : 0 ≤ a) : Ev (fun k => spec_pgFirst.f k l) (tld l (fi l) 1) := by
 unfold spec_pgFirst.f
 refine Ev.bind ha ?_
 simp (disch := omega) only [if_neg]
 exact ev_spec_first0 l hn

end Go.Proofs.Ytklhakfmegbobaa.B
