/- The law FnExactFirstDesk holds: the program's FirstDesk returns what the reference's returns, in memory of its own. No condition. -/
import Derived.Test.YtnlkglbpihgcmaaX0
import Derived.Test.YtnlkglbpihgcmaaX4
namespace Go.Proofs.Ytnlkglbpihgcmaa.Pure
open Go.RowKit Go.Proofs.Ytnlkglbpihgcmaa.XW Go.Proofs.Ytnlkglbpihgcmaa.X Go.Proofs.YtnlkglbpihgcmaaW.PrintWords Go.Proofs.YtnlkglbpihgcmaaW.PrintLast
set_option linter.unusedVariables false
set_option linter.unusedSimpArgs false
set_option maxRecDepth 20000

theorem FnExactFirstDesk : laws_FnExactFirstDesk.Pure := by
  refine ⟨10, ?_⟩
  decide +kernel

end Go.Proofs.Ytnlkglbpihgcmaa.Pure
