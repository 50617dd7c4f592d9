
import Derived.Test.YtmcobmphmmgdmaaZFnExactFirstRoundWInv
import Derived.Test.YtmcobmphmmgdmaaZFnExactFirstRoundWFootNe
namespace Go.Proofs.YtmcobmphmmgdmaaW.PrintWords
open Go.RowKit
end Go.Proofs.YtmcobmphmmgdmaaW.PrintWords
namespace Go.Proofs.YtmcobmphmmgdmaaW.PrintLast
section
variable {ops : Array Oper} {a : Act} {o og : Oper} {g : Nat} {t : Tmp} {u : Bool}
end
end Go.Proofs.YtmcobmphmmgdmaaW.PrintLast
