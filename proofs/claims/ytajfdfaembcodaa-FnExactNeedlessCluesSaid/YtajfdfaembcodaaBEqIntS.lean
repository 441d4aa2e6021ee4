-- thin
/- Lists of numbers compared. -/
import Derived.Test.YtajfdfaembcodaaX0
import Derived.Test.YtajfdfaembcodaaX9
import Derived.Test.YtajfdfaembcodaaBBase
namespace Go.Proofs.Ytajfdfaembcodaa.B
open Go.RowKit Go.Proofs.Ytajfdfaembcodaa.XW Go.Proofs.Ytajfdfaembcodaa.X Go.Proofs.YtajfdfaembcodaaW.PrintWords Go.Proofs.YtajfdfaembcodaaW.PrintLast Go.Proofs.Ytajfdfaembcodaa.B
set_option linter.unusedVariables false
set_option linter.unusedSimpArgs false
set_option maxRecDepth 20000

theorem ev_eqIntS (l : List Int) (hn : l.length ≤ 1099511627776) : Ev (fun k => laws_eqIntS.f k l l) true := by
 unfold laws_eqIntS.f
 simp only [if_true]
 have go : ∀ (d i : Nat), i + d = l.length → Ev (fun k => laws_eqIntS.l0 k l l i) true := by
  intro d
  induction d with
  | zero =>
   intro i hi
   refine Ev.succ ?_
   simp (disch := omega) only [laws_eqIntS.l0, if_neg]
   exact Ev.now _
  | succ d ih =>
   intro i hi
   refine Ev.succ ?_
   simp (disch := omega) only [laws_eqIntS.l0, if_pos, w64]
   exact ih (i + 1) (by omega)
 exact go l.length 0 (by omega)

end Go.Proofs.Ytajfdfaembcodaa.B
