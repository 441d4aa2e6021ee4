-- thin
import Derived.Test.YtnlkglbpihgcmaaWInv
import Derived.Test.YtnlkglbpihgcmaaWFootNe
namespace Go.Proofs.YtnlkglbpihgcmaaW.PrintWords
open Go.RowKit
end Go.Proofs.YtnlkglbpihgcmaaW.PrintWords
namespace Go.Proofs.YtnlkglbpihgcmaaW.PrintLast
section
variable {ops : Array Oper} {a : Act} {o og : Oper} {g : Nat} {t : Tmp} {u : Bool}
end
end Go.Proofs.YtnlkglbpihgcmaaW.PrintLast
