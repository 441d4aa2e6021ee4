-- thin
import Derived.Test.YtiacfkilmknldaaWInv
import Derived.Test.YtiacfkilmknldaaWFootNe
namespace Go.Proofs.YtiacfkilmknldaaW.PrintWords
open Go.RowKit
end Go.Proofs.YtiacfkilmknldaaW.PrintWords
namespace Go.Proofs.YtiacfkilmknldaaW.PrintLast
section
variable {ops : Array Oper} {a : Act} {o og : Oper} {g : Nat} {t : Tmp} {u : Bool}
end
end Go.Proofs.YtiacfkilmknldaaW.PrintLast
