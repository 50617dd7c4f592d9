
import Derived.Test.YtdagljakajpdjaaZFnExactNextTableWInv
import Derived.Test.YtdagljakajpdjaaZFnExactNextTableWFootNe
namespace Go.Proofs.YtdagljakajpdjaaW.PrintWords
open Go.RowKit
end Go.Proofs.YtdagljakajpdjaaW.PrintWords
namespace Go.Proofs.YtdagljakajpdjaaW.PrintLast
section
variable {ops : Array Oper} {a : Act} {o og : Oper} {g : Nat} {t : Tmp} {u : Bool}
end
end Go.Proofs.YtdagljakajpdjaaW.PrintLast
