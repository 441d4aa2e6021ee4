-- thin
/- Marks put into a list of numbers, and found again. -/
import Derived.Test.YtajfdfaembcodaaX0
import Derived.Test.YtajfdfaembcodaaX10
import Derived.Test.YtajfdfaembcodaaBBase
import Derived.Test.YtajfdfaembcodaaBEqIntS
namespace Go.Proofs.Ytajfdfaembcodaa.B
open Go.RowKit Go.Proofs.Ytajfdfaembcodaa.XW Go.Proofs.Ytajfdfaembcodaa.X Go.Proofs.YtajfdfaembcodaaW.PrintWords Go.Proofs.YtajfdfaembcodaaW.PrintLast Go.Proofs.Ytajfdfaembcodaa.B
set_option linter.unusedVariables false
set_option linter.unusedSimpArgs false
set_option maxRecDepth 20000

def mkI (n : Nat) (a : Int) : List Int := (List.range n).map fun (i : Nat) => a + (i : Int)
theorem mkI_length (n : Nat) (a : Int) : (mkI n a).length = n := by simp [mkI]
theorem mkI_get {n i : Nat} (a : Int) (h : i < n) : (mkI n a)[i]? = some (a + (i : Int)) := by
 simp [mkI, h]
theorem mkI_rd {n i : Nat} (a : Int) (h : i < n) : rd (mkI n a) (i : Int) = a + (i : Int) := by
 show (mkI n a).getD i 0 = _
 rw [List.getD_eq_getElem?_getD, mkI_get a h]
 rfl
theorem ev_markIntS (l : List Int) (a : Int) (hl : l.length ≤ 1099511627776) (ha : 0 ≤ a ∧ a ≤ 1099511627776) : Ev (fun k => laws_markIntS.f k l a) (a + (l.length : Int), mkI l.length a) := by
 unfold laws_markIntS.f
 have go : ∀ (d i : Nat) (x : List Int), i + d = l.length → x.length = l.length → (∀ j, j < i → x[j]? = (mkI l.length a)[j]?) → Ev (fun k => laws_markIntS.l0 k x (a + (i : Int)) i) (a + (l.length : Int), mkI l.length a) := by
  intro d
  induction d with
  | zero =>
   intro i x hi hx hj
   refine Ev.succ ?_
   simp (disch := omega) only [laws_markIntS.l0, if_neg]
   refine Ev.some ?_
   obtain rfl : i = l.length := by omega
   congr 1
   refine List.ext_getElem? fun j => ?_
   by_cases h : j < l.length
   ·exact hj j h
   ·rw [List.getElem?_eq_none (by omega), List.getElem?_eq_none (by rw [mkI_length]; omega)]
  | succ d ih =>
   intro i x hi hx hj
   refine Ev.succ ?_
   simp (disch := omega) only [laws_markIntS.l0, if_pos, w64, Int.toNat_natCast]
   have e : a + (i : Int) + 1 = a + ((i + 1 : Nat) : Int) := by omega
   rw [e]
   refine ih (i + 1) _ (by omega) (by simp [hx]) fun j hj' => ?_
   by_cases h : j = i
   ·subst h
    rw [List.getElem?_set_self (by omega), mkI_get a (by omega)]
   ·rw [List.getElem?_set_ne (by omega)]
    exact hj j (by omega)
 have := go l.length 0 l (by omega) rfl (fun j h => by omega)
 simpa using this
theorem ev_heldIntS (l : List Int) (a : Int) (hl : l.length ≤ 1099511627776) (ha : 0 ≤ a ∧ a ≤ 1099511627776) : Ev (fun k => laws_heldIntS.f k (mkI l.length a) a) (a + (l.length : Int)) := by
 unfold laws_heldIntS.f
 have hm := mkI_length l.length a
 have go : ∀ (d i : Nat), i + d = l.length → Ev (fun k => laws_heldIntS.l0 k (mkI l.length a) (a + (i : Int)) i) (a + (l.length : Int)) := by
  intro d
  induction d with
  | zero =>
   intro i hi
   refine Ev.succ ?_
   simp (disch := omega) only [laws_heldIntS.l0, if_neg]
   obtain rfl : i = l.length := by omega
   exact Ev.now _
  | succ d ih =>
   intro i hi
   refine Ev.succ ?_
   simp (disch := omega) only [laws_heldIntS.l0, if_pos, mkI_rd a (show i < l.length by omega), w64]
   have e : a + (i : Int) + 1 = a + ((i + 1 : Nat) : Int) := by omega
   rw [e]
   exact ih (i + 1) (by omega)
 have := go l.length 0 (by omega)
 simpa using this

end Go.Proofs.Ytajfdfaembcodaa.B
