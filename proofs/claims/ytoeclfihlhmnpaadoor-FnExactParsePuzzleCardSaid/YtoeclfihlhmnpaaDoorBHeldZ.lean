-- thin
/- Marks found again in a puzzle. -/
import Derived.Test.YtoeclfihlhmnpaaDoorX0
import Derived.Test.YtoeclfihlhmnpaaDoorX11
import Derived.Test.YtoeclfihlhmnpaaDoorBBase
import Derived.Test.YtoeclfihlhmnpaaDoorBClues
import Derived.Test.YtoeclfihlhmnpaaDoorBLawZ
namespace Go.Proofs.YtoeclfihlhmnpaaDoor.B
open Go.RowKit Go.Proofs.YtoeclfihlhmnpaaDoor.XW Go.Proofs.YtoeclfihlhmnpaaDoor.X Go.Proofs.YtoeclfihlhmnpaaDoorW.PrintWords Go.Proofs.YtoeclfihlhmnpaaDoorW.PrintLast Go.Proofs.YtoeclfihlhmnpaaDoor.B
set_option linter.unusedVariables false
set_option linter.unusedSimpArgs false
set_option maxRecDepth 20000

theorem ev_heldClueS (l : List S_impl_Clue) (a : Int) (hl : l.length ≤ 1099511627776) (ha : 0 ≤ a ∧ a ≤ 1099511627776) : Ev (fun k => laws_heldClueS.f k (mkC l.length a) a) (a + 4 * (l.length : Int)) := by
 unfold laws_heldClueS.f
 have hm := mkC_length l.length a
 have go : ∀ (d i : Nat), i + d = l.length → Ev (fun k => laws_heldClueS.l0 k (mkC l.length a) (a + 4 * (i : Int)) i) (a + 4 * (l.length : Int)) := by
  intro d
  induction d with
  | zero =>
   intro i hi
   refine Ev.succ ?_
   simp (disch := omega) only [laws_heldClueS.l0, if_neg]
   obtain rfl : i = l.length := by omega
   exact Ev.now _
  | succ d ih =>
   intro i hi
   refine Ev.succ ?_
   have e : a + 4 * (i : Int) + 1 + 1 + 1 + 1 = a + 4 * ((i + 1 : Nat) : Int) := by omega
   have e2 : a + 4 * (i : Int) + 1 + 1 = a + 4 * (i : Int) + 2 := by omega
   have e3 : a + 4 * (i : Int) + 2 + 1 = a + 4 * (i : Int) + 3 := by omega
   simp (disch := omega) only [laws_heldClueS.l0, if_pos, rd_cl, mkC_cl a (show i < l.length by omega), mkC1, w64]
   rw [e]
   exact ih (i + 1) (by omega)
 have := go l.length 0 (by omega)
 simpa using this
theorem ev_heldPuzzle (z : Int) (l : List S_impl_Clue) (a : Int) (hl : l.length ≤ 1099511627776) (ha : 0 ≤ a ∧ a ≤ 1099511627776) : Ev (fun k => laws_heldPuzzle.f k z (mkC l.length a) a) (a + 4 * (l.length : Int)) := by
 unfold laws_heldPuzzle.f
 refine Ev.bind (ev_heldClueS l a hl ha) ?_
 simp (disch := omega) only [if_neg]
 exact Ev.now _

end Go.Proofs.YtoeclfihlhmnpaaDoor.B
