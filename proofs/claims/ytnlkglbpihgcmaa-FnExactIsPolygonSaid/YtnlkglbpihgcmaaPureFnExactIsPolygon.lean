/- The law FnExactIsPolygon holds: for every list of pegs the program's IsPolygon answers as the reference's, and the list is left as it was. No condition. -/
import Derived.Test.YtnlkglbpihgcmaaX0
import Derived.Test.YtnlkglbpihgcmaaX12
import Derived.Test.YtnlkglbpihgcmaaBBase
import Derived.Test.YtnlkglbpihgcmaaBCore
import Derived.Test.YtnlkglbpihgcmaaBPoly
namespace Go.Proofs.Ytnlkglbpihgcmaa.Pure
open Go.RowKit Go.Proofs.Ytnlkglbpihgcmaa.XW Go.Proofs.Ytnlkglbpihgcmaa.X Go.Proofs.YtnlkglbpihgcmaaW.PrintWords Go.Proofs.YtnlkglbpihgcmaaW.PrintLast Go.Proofs.Ytnlkglbpihgcmaa.B
set_option linter.unusedVariables false
set_option linter.unusedSimpArgs false
set_option maxRecDepth 20000

theorem FnExactIsPolygon : laws_FnExactIsPolygon.Pure := by
  intro l hl
  have hl := hl.1
  refine Ev.rounds ?_
  unfold laws_FnExactIsPolygon.f
  rw [szPegS_eq l hl]
  simp only [Option.bind_some]
  by_cases h : 1048576 < l.length
  · simp only [if_pos h]
    exact Ev.now _
  · simp only [if_neg h]
    simp (disch := omega) only [if_neg]
    have hle : l.length ≤ 1048576 := by omega
    refine Ev.bind (ev_toPegS l hle) ?_
    refine Ev.bind (ev_spec_IsPolygon _) ?_
    refine Ev.bind (ev_toPegS l hle) ?_
    refine Ev.bind (ev_impl_IsPolygon _) ?_
    simp only [bne_self_eq_false, Bool.false_eq_true, if_false]
    refine Ev.bind (ev_toPegS l hle) ?_
    refine Ev.bind (ev_eqPegS _ (by rw [toP_length]; omega)) ?_
    simp only [if_true]
    exact Ev.now _

end Go.Proofs.Ytnlkglbpihgcmaa.Pure
