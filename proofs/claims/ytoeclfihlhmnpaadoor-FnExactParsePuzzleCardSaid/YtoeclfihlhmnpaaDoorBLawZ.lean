-- thin
/- Puzzles compared and marked. -/
import Derived.Test.YtoeclfihlhmnpaaDoorX0
import Derived.Test.YtoeclfihlhmnpaaDoorX9
import Derived.Test.YtoeclfihlhmnpaaDoorX10
import Derived.Test.YtoeclfihlhmnpaaDoorBBase
import Derived.Test.YtoeclfihlhmnpaaDoorBClues
namespace Go.Proofs.YtoeclfihlhmnpaaDoor.B
open Go.RowKit Go.Proofs.YtoeclfihlhmnpaaDoor.XW Go.Proofs.YtoeclfihlhmnpaaDoor.X Go.Proofs.YtoeclfihlhmnpaaDoorW.PrintWords Go.Proofs.YtoeclfihlhmnpaaDoorW.PrintLast Go.Proofs.YtoeclfihlhmnpaaDoor.B
set_option linter.unusedVariables false
set_option linter.unusedSimpArgs false
set_option maxRecDepth 20000

theorem ev_eqClueS (l : List S_impl_Clue) (hn : l.length ≤ 1099511627776) : Ev (fun k => laws_eqClueS.f k l l) true := by
 unfold laws_eqClueS.f
 simp only [if_true]
 have go : ∀ (d i : Nat), i + d = l.length → Ev (fun k => laws_eqClueS.l0 k l l i) true := by
  intro d
  induction d with
  | zero =>
   intro i hi
   refine Ev.succ ?_
   simp (disch := omega) only [laws_eqClueS.l0, if_neg]
   exact Ev.now _
  | succ d ih =>
   intro i hi
   refine Ev.succ ?_
   simp (disch := omega) only [laws_eqClueS.l0, if_pos, laws_eqClue.f, Option.bind_some, if_true, w64]
   exact ih (i + 1) (by omega)
 exact go l.length 0 (by omega)
theorem ev_eqPuzzle (z : Int) (l : List S_impl_Clue) (hn : l.length ≤ 1099511627776) : Ev (fun k => laws_eqPuzzle.f k z l z l) true := by
 unfold laws_eqPuzzle.f
 simp only [if_true]
 refine Ev.bind (ev_eqClueS l hn) ?_
 simp only [if_true]
 exact Ev.now _
def mkC1 (a : Int) (i : Nat) : S_impl_Clue := ⟨a + 4 * (i : Int), a + 4 * (i : Int) + 1, a + 4 * (i : Int) + 2, a + 4 * (i : Int) + 3⟩
def mkC (n : Nat) (a : Int) : List S_impl_Clue := (List.range n).map (mkC1 a)
theorem mkC_length (n : Nat) (a : Int) : (mkC n a).length = n := by simp [mkC]
theorem mkC_get {n i : Nat} (a : Int) (h : i < n) : (mkC n a)[i]? = some (mkC1 a i) := by
 simp [mkC, h]
theorem mkC_cl {n i : Nat} (a : Int) (h : i < n) : cl (mkC n a) i = mkC1 a i := by
 unfold cl
 rw [List.getD_eq_getElem?_getD, mkC_get a h]
 rfl
theorem rd_set (x : List S_impl_Clue) (j : Nat) (c : S_impl_Clue) (h : j < x.length) : rd_impl_Clue (x.set j c) j = c := by
 rw [rd_cl]
 unfold cl
 rw [List.getD_eq_getElem?_getD, List.getElem?_set_self h]
 rfl
theorem ev_markClueS (l : List S_impl_Clue) (a : Int) (hl : l.length ≤ 1099511627776) (ha : 0 ≤ a ∧ a ≤ 1099511627776) : Ev (fun k => laws_markClueS.f k l a) (a + 4 * (l.length : Int), mkC l.length a) := by
 unfold laws_markClueS.f
 have go : ∀ (d i : Nat) (x : List S_impl_Clue), i + d = l.length → x.length = l.length → (∀ j, j < i → x[j]? = (mkC l.length a)[j]?) → Ev (fun k => laws_markClueS.l0 k x (a + 4 * (i : Int)) i) (a + 4 * (l.length : Int), mkC l.length a) := by
  intro d
  induction d with
  | zero =>
   intro i x hi hx hj
   refine Ev.succ ?_
   simp (disch := omega) only [laws_markClueS.l0, if_neg]
   refine Ev.some ?_
   obtain rfl : i = l.length := by omega
   congr 1
   refine List.ext_getElem? fun j => ?_
   by_cases h : j < l.length
   ·exact hj j h
   ·rw [List.getElem?_eq_none (by omega), List.getElem?_eq_none (by rw [mkC_length]; omega)]
  | succ d ih =>
   intro i x hi hx hj
   refine Ev.succ ?_
   have hi' : i < x.length := by omega
   simp (disch := omega) only [laws_markClueS.l0, if_pos, Option.bind_some, w64, Int.toNat_natCast]
   have e : a + 4 * (i : Int) + 1 + 1 + 1 + 1 = a + 4 * ((i + 1 : Nat) : Int) := by omega
   have e2 : a + 4 * (i : Int) + 1 + 1 = a + 4 * (i : Int) + 2 := by omega
   have e3 : a + 4 * (i : Int) + 2 + 1 = a + 4 * (i : Int) + 3 := by omega
   rw [e]
   simp only [e2, e3]
   simp (disch := first | omega | (simp only [List.length_set]; omega)) only [rd_set, List.set_set]
   refine ih (i + 1) _ (by omega) (by simp [hx]) fun j hj' => ?_
   by_cases h : j = i
   ·subst h
    rw [List.getElem?_set_self hi', mkC_get a (by omega)]
    rfl
   ·rw [List.getElem?_set_ne (by omega)]
    exact hj j (by omega)
 have := go l.length 0 l (by omega) rfl (fun j h => by omega)
 simpa using this
theorem ev_markPuzzle (z : Int) (l : List S_impl_Clue) (a : Int) (hl : l.length ≤ 1099511627776) (ha : 0 ≤ a ∧ a ≤ 1099511627776) : Ev (fun k => laws_markPuzzle.f k z l a) (a + 4 * (l.length : Int), mkC l.length a) := by
 unfold laws_markPuzzle.f
 exact Ev.bind (ev_markClueS l a hl ha) (Ev.now _)

end Go.Proofs.YtoeclfihlhmnpaaDoor.B
