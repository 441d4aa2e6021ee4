-- thin
/- Lists told from each corner on have frames; equality of lists. -/
import Derived.Test.YtphkphjddkjabaaX0
import Derived.Test.YtphkphjddkjabaaX2
import Derived.Test.YtphkphjddkjabaaX15
import Derived.Test.YtphkphjddkjabaaBBase
import Derived.Test.YtphkphjddkjabaaBCore
import Derived.Test.YtphkphjddkjabaaBPoly
import Derived.Test.YtphkphjddkjabaaBAsk
import Derived.Test.YtphkphjddkjabaaBTold
import Derived.Test.YtphkphjddkjabaaBOrder
import Derived.Test.YtphkphjddkjabaaBGcd
import Derived.Test.YtphkphjddkjabaaBFrame
namespace Go.Proofs.Ytphkphjddkjabaa.B
open Go.RowKit Go.Proofs.Ytphkphjddkjabaa.XW Go.Proofs.Ytphkphjddkjabaa.X Go.Proofs.YtphkphjddkjabaaW.PrintWords Go.Proofs.YtphkphjddkjabaaW.PrintLast Go.Proofs.Ytphkphjddkjabaa.B
set_option linter.unusedVariables false
set_option linter.unusedSimpArgs false
set_option maxRecDepth 20000

theorem szPegS_eq' (l : List S_laws_Peg) (n : Int) (hn : l.length ≤ 9223372036854775807) (h : 0 ≤ n ∧ n ≤ 1048576) : laws_szPegS.f l n = some (if n < l.length then -1 else n - (l.length : Int)) := by
 unfold laws_szPegS.f
 rw [w64 (by omega)]
 by_cases c : n < l.length
 ·simp (disch := omega) only [if_pos]
 ·simp (disch := omega) only [if_neg]
theorem ne_dec (p r : S_impl_Peg) : (!(p.f0 == r.f0) || (!(p.f1 == r.f1))) = !decide (p = r) := by
 rw [← Bool.not_and]
 congr 1
 by_cases e : p = r
 ·rw [same_peg.2 e]
  simp [e]
 ·have : ¬ (p.f0 == r.f0 && (p.f1 == r.f1)) = true := fun c => e (same_peg.1 c)
  rw [Bool.eq_false_iff.2 this]
  simp [e]
theorem tldi_down {n a j : Nat} (ha : a < n) (hj : j < n) : tldi n (a : Int) (-1) j = if j ≤ a then a - j else a + n - j := by
 unfold tldi
 split
 ·rw [show (a : Int) + (j : Int) * (-1) = ((a - j : Nat) : Int) by omega, Int.emod_eq_of_lt (by omega) (by omega)]
  omega
 ·rw [show (a : Int) + (j : Int) * (-1) = ((a + n - j : Nat) : Int) + (n : Int) * (-1) by omega, Int.add_mul_emod_self_left, Int.emod_eq_of_lt (by omega) (by omega)]
  omega
theorem tld_sm {l : List S_impl_Peg} {B a s : Int} (h : ∀ i, i < l.length → Sm B (pt l i)) : ∀ i, i < (tld l a s).length → Sm B (pt (tld l a s) i) := by
 intro i hi
 rw [tld_length] at hi
 rw [tld_pt _ _ hi]
 exact h _ (tldi_lt _ _ _ (by omega))
theorem tn_rev (a b c : S_impl_Peg) : tn c b a = - tn a b c := by
 unfold tn
 grind
/-- Lists that turn at each corner. -/
structure Trn (l : List S_impl_Peg) : Prop where
 lo : 3 ≤ l.length
 hi : l.length ≤ 10
 pegs : ∀ i, i < l.length → Sm 100 (pt l i)
 turns : ∀ i, i < l.length → tn (pt l (pv l.length i)) (pt l i) (pt l (nx l.length i)) ≠ 0
namespace Trn
variable {l : List S_impl_Peg} (h : Trn l)
include h
theorem turn_at {i j k : Nat} (hi : i < l.length) (hj : j < l.length) (hk : k < l.length) (e1 : j = nx l.length i) (e2 : k = nx l.length j) : tn (pt l i) (pt l j) (pt l k) ≠ 0 := by
 have := h.turns j hj
 rw [← e2] at this
 have p : pv l.length j = i := by
  rw [e1]
  exact pv_nx hi
 rw [p] at this
 exact this
theorem fr_up {a : Nat} (ha : a < l.length) : FrOK (tld l a 1) := by
 have h3 := h.lo
 have h9 := h.hi
 refine ⟨by rw [tld_length]; exact h3, by rw [tld_length]; exact h9, tld_sm h.pegs, ?_⟩
 rw [tld_pt _ _ (by omega), tld_pt _ _ (by omega), tld_pt _ _ (by omega)]
 refine h.turn_at (tldi_lt _ _ _ (by omega)) (tldi_lt _ _ _ (by omega)) (tldi_lt _ _ _ (by omega)) ?_ ?_
 ·rw [tldi1 ha (by omega), tldi1 ha (by omega)]
  unfold nx
  repeat' split
  all_goals omega
 ·rw [tldi1 ha (by omega), tldi1 ha (by omega)]
  unfold nx
  repeat' split
  all_goals omega
theorem fr_down {a : Nat} (ha : a < l.length) : FrOK (tld l a (-1)) := by
 have h3 := h.lo
 have h9 := h.hi
 refine ⟨by rw [tld_length]; exact h3, by rw [tld_length]; exact h9, tld_sm h.pegs, ?_⟩
 rw [tld_pt _ _ (by omega), tld_pt _ _ (by omega), tld_pt _ _ (by omega), tn_rev]
 have := h.turn_at (i := tldi l.length a (-1) 2) (j := tldi l.length a (-1) 1) (k := tldi l.length a (-1) 0) (tldi_lt _ _ _ (by omega)) (tldi_lt _ _ _ (by omega)) (tldi_lt _ _ _ (by omega)) (by
  rw [tldi_down ha (by omega), tldi_down ha (by omega)]
  unfold nx
  repeat' split
  all_goals omega) (by
  rw [tldi_down ha (by omega), tldi_down ha (by omega)]
  unfold nx
  repeat' split
  all_goals omega)
 omega
end Trn
theorem Poly.trn {l : List S_impl_Peg} (h : Poly l) : Trn l := ⟨h.lo, h.hi, fun i hi => (h.pegs i hi).mono (by omega), h.turns⟩
theorem ev_equal (a b : List S_impl_Peg) (hn : a.length ≤ 100000) (hb : b.length ≤ 100000) : Ev (fun k => slices_Equal_impl_Peg.f k a b) (decide (a = b)) := by
 unfold slices_Equal_impl_Peg.f
 by_cases e : a.length = b.length
 ·simp (disch := omega) only [if_pos]
  have go : ∀ (d i : Nat), i + d = a.length → (∀ j, j < i → pt a j = pt b j) → Ev (fun k => slices_Equal_impl_Peg.l0 k a b a.length i) (decide (a = b)) := by
   intro d
   induction d with
   | zero =>
    intro i hi hj
    refine Ev.succ ?_
    obtain rfl : i = a.length := by omega
    simp (disch := omega) only [slices_Equal_impl_Peg.l0, if_neg]
    refine Ev.some ?_
    symm
    rw [decide_eq_true_eq]
    refine List.ext_getElem e fun i h1 h2 => ?_
    have := hj i h1
    unfold pt at this
    rw [List.getD_eq_getElem?_getD, List.getD_eq_getElem?_getD, List.getElem?_eq_getElem h1, List.getElem?_eq_getElem h2] at this
    exact this
   | succ d ih =>
    intro i hi hj
    refine Ev.succ ?_
    simp (disch := omega) only [slices_Equal_impl_Peg.l0, if_pos, rd_pt, w64, ne_dec]
    by_cases c : pt a i = pt b i
    ·simp only [c, decide_true, Bool.not_true, Bool.false_eq_true, if_false]
     refine ih (i + 1) (by omega) fun j hj1 => ?_
     by_cases ej : j = i
     ·rw [ej]
      exact c
     ·exact hj j (by omega)
    ·simp only [c, decide_false, Bool.not_false, if_true]
     refine Ev.some ?_
     symm
     rw [decide_eq_false_iff_not]
     intro f
     exact c (by rw [f])
  exact go a.length 0 (by omega) (fun j hj => absurd hj (Nat.not_lt_zero _))
 ·simp (disch := omega) only [if_neg]
  refine Ev.some ?_
  symm
  rw [decide_eq_false_iff_not]
  intro c
  rw [c] at e
  exact e rfl

end Go.Proofs.Ytphkphjddkjabaa.B
