-- thin
/- Puzzles copied, compared and marked. -/
import Derived.Test.YtoeclfihlhmnpaaDoorX0
import Derived.Test.YtoeclfihlhmnpaaDoorX1
import Derived.Test.YtoeclfihlhmnpaaDoorX4
import Derived.Test.YtoeclfihlhmnpaaDoorX5
import Derived.Test.YtoeclfihlhmnpaaDoorBBase
import Derived.Test.YtoeclfihlhmnpaaDoorBClues
namespace Go.Proofs.YtoeclfihlhmnpaaDoor.B
open Go.RowKit Go.Proofs.YtoeclfihlhmnpaaDoor.XW Go.Proofs.YtoeclfihlhmnpaaDoor.X Go.Proofs.YtoeclfihlhmnpaaDoorW.PrintWords Go.Proofs.YtoeclfihlhmnpaaDoorW.PrintLast Go.Proofs.YtoeclfihlhmnpaaDoor.B
set_option linter.unusedVariables false
set_option linter.unusedSimpArgs false
set_option maxRecDepth 20000

def toC (l : List S_laws_Clue) : List S_impl_Clue := l.map fun c => ⟨c.f0, c.f1, c.f2, c.f3⟩
theorem toC_length (l : List S_laws_Clue) : (toC l).length = l.length := by simp [toC]
theorem ev_toClueS (l : List S_laws_Clue) (hn : l.length ≤ 1048576) : Ev (fun k => laws_toClueS.f k l) (toC l) := by
 unfold laws_toClueS.f
 simp (disch := omega) only [if_pos]
 have go : ∀ (d i : Nat) (x : List S_impl_Clue), i + d = l.length → x.length = l.length → (∀ j, j < i → x[j]? = (toC l)[j]?) → Ev (fun k => laws_toClueS.l0 k l x i) (toC l) := by
  intro d
  induction d with
  | zero =>
   intro i x hi hx hj
   refine Ev.succ ?_
   simp (disch := omega) only [laws_toClueS.l0, if_neg]
   refine Ev.some ?_
   refine List.ext_getElem? fun j => ?_
   by_cases h : j < i
   ·exact hj j h
   ·rw [List.getElem?_eq_none (by omega), List.getElem?_eq_none (by rw [toC_length]; omega)]
  | succ d ih =>
   intro i x hi hx hj
   refine Ev.succ ?_
   simp (disch := omega) only [laws_toClueS.l0, if_pos, laws_toClue.f, Option.bind_some, w64, Int.toNat_natCast]
   refine ih (i + 1) _ (by omega) (by simp [hx]) fun j hj' => ?_
   by_cases e : j = i
   ·subst e
    have hlt : j < l.length := by omega
    rw [List.getElem?_set_self (by omega)]
    simp [toC, hlt, rd_laws_Clue, List.getD]
   ·rw [List.getElem?_set_ne (by omega)]
    exact hj j (by omega)
 exact go l.length 0 _ (by omega) (by simp) (fun j h => by omega)
theorem ev_toPuzzle (z : Int) (l : List S_laws_Clue) (hn : l.length ≤ 1048576) : Ev (fun k => laws_toPuzzle.f k z l) (z, toC l) := by
 unfold laws_toPuzzle.f
 exact Ev.bind (ev_toClueS l hn) (Ev.now _)
theorem szPuzzle_eq (z : Int) (l : List S_laws_Clue) (hn : l.length ≤ 9223372036854775807) : laws_szPuzzle.f z l 1048576 = some (if 1048576 < l.length then -1 else 1048576 - (l.length : Int)) := by
 unfold laws_szPuzzle.f laws_szClueS.f
 rw [w64 (by omega)]
 by_cases h : 1048576 < l.length
 ·rw [if_pos (by omega), if_pos h]
  rfl
 ·rw [if_neg (by omega), if_neg h]
  simp only [Option.bind_some]
  rw [if_neg (by omega)]
theorem ev_eqClueS (l : List S_impl_Clue) (hn : l.length ≤ 1099511627776) : Ev (fun k => laws_eqClueS.f k l l) true := by
 unfold laws_eqClueS.f
 simp only [if_true]
 have go : ∀ (d i : Nat), i + d = l.length → Ev (fun k => laws_eqClueS.l0 k l l i) true := by
  intro d
  induction d with
  | zero =>
   intro i hi
   refine Ev.succ ?_
   simp (disch := omega) only [laws_eqClueS.l0, if_neg]
   exact Ev.now _
  | succ d ih =>
   intro i hi
   refine Ev.succ ?_
   simp (disch := omega) only [laws_eqClueS.l0, if_pos, laws_eqClue.f, Option.bind_some, if_true, w64]
   exact ih (i + 1) (by omega)
 exact go l.length 0 (by omega)
theorem ev_eqPuzzle (z : Int) (l : List S_impl_Clue) (hn : l.length ≤ 1099511627776) : Ev (fun k => laws_eqPuzzle.f k z l z l) true := by
 unfold laws_eqPuzzle.f
 simp only [if_true]
 refine Ev.bind (ev_eqClueS l hn) ?_
 simp only [if_true]
 exact Ev.now _

end Go.Proofs.YtoeclfihlhmnpaaDoor.B
