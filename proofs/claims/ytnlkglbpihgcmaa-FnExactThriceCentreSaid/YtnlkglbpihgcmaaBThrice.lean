/- Three times the barycentre. -/
import Derived.Test.YtnlkglbpihgcmaaX0
import Derived.Test.YtnlkglbpihgcmaaX13
import Derived.Test.YtnlkglbpihgcmaaX14
import Derived.Test.YtnlkglbpihgcmaaBBase
import Derived.Test.YtnlkglbpihgcmaaBCore
import Derived.Test.YtnlkglbpihgcmaaBPoly
import Derived.Test.YtnlkglbpihgcmaaBArea
namespace Go.Proofs.Ytnlkglbpihgcmaa.B
open Go.RowKit Go.Proofs.Ytnlkglbpihgcmaa.XW Go.Proofs.Ytnlkglbpihgcmaa.X Go.Proofs.YtnlkglbpihgcmaaW.PrintWords Go.Proofs.YtnlkglbpihgcmaaW.PrintLast Go.Proofs.Ytnlkglbpihgcmaa.B
set_option linter.unusedVariables false
set_option linter.unusedSimpArgs false
set_option maxRecDepth 20000

noncomputable def ans_ThriceCentre (l : List S_impl_Peg) : Int × Int × Bool := if three l = true then ((pt l 0).f0 + (pt l 1).f0 + (pt l 2).f0, (pt l 0).f1 + (pt l 1).f1 + (pt l 2).f1, true) else (0, 0, false)
theorem ev_spec_ThriceCentre (l : List S_impl_Peg) : Ev (fun k => spec_ThriceCentre.f k l) (ans_ThriceCentre l) := by
  unfold spec_ThriceCentre.f ans_ThriceCentre
  refine Ev.asked (ev_spec_three l) (fun h => ?_) (fun h => ?_)
  · obtain ⟨h3, p0, p1, p2⟩ := three_sm h
    unfold Sm at p0 p1 p2
    simp (disch := omega) only [h, if_pos, rd0, rd1, rd2, w64]
    exact Ev.now _
  · simp only [h, Bool.false_eq_true, if_false]
    exact Ev.now _
theorem ev_impl_ThriceCentre (l : List S_impl_Peg) : Ev (fun k => impl_ThriceCentre.f k l) (ans_ThriceCentre l) := by
  unfold impl_ThriceCentre.f ans_ThriceCentre
  refine Ev.asked (ev_impl_three l) (fun h => ?_) (fun h => ?_)
  · obtain ⟨h3, p0, p1, p2⟩ := three_sm h
    unfold Sm at p0 p1 p2
    simp (disch := omega) only [h, if_pos, impl_Peg_plus.f, Option.bind_some, rd0, rd1, rd2, w64]
    exact Ev.now _
  · simp only [h, Bool.false_eq_true, if_false]
    exact Ev.now _

end Go.Proofs.Ytnlkglbpihgcmaa.B
