-- thin
/- Corners told from one of them on, to one of two sides. -/
import Derived.Test.YtphkphjddkjabaaX0
import Derived.Test.YtphkphjddkjabaaX5
import Derived.Test.YtphkphjddkjabaaX15
import Derived.Test.YtphkphjddkjabaaBBase
import Derived.Test.YtphkphjddkjabaaBCore
import Derived.Test.YtphkphjddkjabaaBPoly
import Derived.Test.YtphkphjddkjabaaBAsk
namespace Go.Proofs.Ytphkphjddkjabaa.B
open Go.RowKit Go.Proofs.Ytphkphjddkjabaa.XW Go.Proofs.Ytphkphjddkjabaa.X Go.Proofs.YtphkphjddkjabaaW.PrintWords Go.Proofs.YtphkphjddkjabaaW.PrintLast Go.Proofs.Ytphkphjddkjabaa.B
set_option linter.unusedVariables false
set_option linter.unusedSimpArgs false
set_option maxRecDepth 20000

theorem rmap_take {α : Type} {f : Nat → α} {n i : Nat} (h : i < n) : ((List.range n).map f).take (i + 1) = ((List.range n).map f).take i ++ [f i] := by
 rw [List.take_succ_eq_append_getElem (by simpa using h)]
 simp
theorem rmap_take_length {α : Type} {f : Nat → α} {n i : Nat} (h : i ≤ n) : (((List.range n).map f).take i).length = i := by
 simp
 omega
theorem rmap_pt {f : Nat → S_impl_Peg} {n i : Nat} (h : i < n) : pt ((List.range n).map f) i = f i := by
 unfold pt
 rw [List.getD_eq_getElem?_getD]
 simp [h]
/-- The place of the corner that is told as number k, from one on. -/
def tldi (n : Nat) (a s : Int) (k : Nat) : Nat := ((a + (k : Int) * s) % (n : Int)).toNat
theorem tldi_lt {n : Nat} (a s : Int) (k : Nat) (hn : 0 < n) : tldi n a s k < n := by
 unfold tldi
 have := Int.emod_nonneg (a + (k : Int) * s) (show (n : Int) ≠ 0 by omega)
 have := Int.emod_lt_of_pos (a + (k : Int) * s) (show (0 : Int) < n by omega)
 omega
def tld (l : List S_impl_Peg) (a s : Int) : List S_impl_Peg := (List.range l.length).map fun k => pt l (tldi l.length a s k)
theorem tld_length (l : List S_impl_Peg) (a s : Int) : (tld l a s).length = l.length := by simp [tld]
theorem tld_pt {l : List S_impl_Peg} (a s : Int) {i : Nat} (h : i < l.length) : pt (tld l a s) i = pt l (tldi l.length a s i) := rmap_pt h
theorem ev_told (l : List S_impl_Peg) {a s : Int} (hn : l.length ≤ 100000) (ha : -100000 ≤ a ∧ a ≤ 100000) (hs : -1 ≤ s ∧ s ≤ 1) : Ev (fun k => impl_told.f k l a s) (tld l a s) := by
 unfold impl_told.f
 simp (disch := omega) only [if_pos]
 have go : ∀ (e i : Nat), i + e = l.length → Ev (fun k => impl_told.l0 k l a s ((tld l a s).take i) l.length i) (tld l a s) := by
  intro e
  induction e with
  | zero =>
   intro i hi
   refine Ev.succ ?_
   obtain rfl : i = l.length := by omega
   simp (disch := omega) only [impl_told.l0, if_neg]
   refine Ev.some ?_
   rw [List.take_of_length_le (by rw [tld_length]; omega)]
  | succ e ih =>
   intro i hi
   refine Ev.succ ?_
   have hil : i < l.length := by omega
   have hlen : ((tld l a s).take i).length = i := rmap_take_length (by omega)
   have hb := mul_bd (x := (i : Int)) (y := s) (A := 100000) (B := 1) (by omega) (by omega)
   simp (disch := omega) only [impl_told.l0, if_pos, w64, at_eq l (a + (i : Int) * s) (by omega) (by omega) (by omega) (by omega), Option.bind_some, hlen]
   have := ih (i + 1) (by omega)
   unfold tld at this
   rw [rmap_take hil] at this
   exact this
 have := go l.length 0 (by omega)
 simpa using this
theorem tldi_back {n j : Nat} (hj : j < n) : tldi n 0 (-1) j = if j = 0 then 0 else n - j := by
 unfold tldi
 split
 ·rename_i h
  subst h
  simp
 ·have e : (0 : Int) + (j : Int) * (-1) = ((n - j : Nat) : Int) + (n : Int) * (-1) := by omega
  rw [e, Int.add_mul_emod_self_left, Int.emod_eq_of_lt (by omega) (by omega)]
  omega
theorem ev_spec_back (l : List S_impl_Peg) (h0 : 0 < l.length) (hn : l.length ≤ 100000) : Ev (fun k => spec_pgBack.f k l) (tld l 0 (-1)) := by
 unfold spec_pgBack.f
 simp (disch := omega) only [if_pos, w64]
 have go : ∀ (e i : Nat), i + 1 + e = l.length → Ev (fun k => spec_pgBack.l0 k l ((tld l 0 (-1)).take (i + 1)) ((l.length : Int) - 1 - i)) (tld l 0 (-1)) := by
  intro e
  induction e with
  | zero =>
   intro i hi
   refine Ev.succ ?_
   simp (disch := omega) only [spec_pgBack.l0, if_neg]
   refine Ev.some ?_
   rw [List.take_of_length_le (by rw [tld_length]; omega)]
  | succ e ih =>
   intro i hi
   refine Ev.succ ?_
   have hil : i + 1 < l.length := by omega
   have hlen : ((tld l 0 (-1)).take (i + 1)).length = i + 1 := rmap_take_length (by omega)
   have e1 : (l.length : Int) - 1 - i = ((l.length - (i + 1) : Nat) : Int) := by omega
   have := ih (i + 1) (by omega)
   unfold tld at this
   rw [rmap_take hil] at this
   rw [tldi_back hil, if_neg (by omega)] at this
   rw [show (l.length : Int) - 1 - ((i + 1 : Nat) : Int) = (l.length : Int) - 1 - i - 1 by omega, e1] at this
   rw [e1]
   simp (disch := omega) only [spec_pgBack.l0, if_pos, w64, rd_pt, hlen]
   exact this
 have := go (l.length - 1) 0 (by omega)
 unfold tld at this
 rw [rmap_take h0] at this
 rw [tldi_back h0, if_pos rfl] at this
 simpa [tld, rd0] using this

end Go.Proofs.Ytphkphjddkjabaa.B
