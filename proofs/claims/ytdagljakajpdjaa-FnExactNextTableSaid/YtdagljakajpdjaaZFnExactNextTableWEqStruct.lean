
import Derived.Test.YtdagljakajpdjaaZFnExactNextTableWWords
import Derived.Laws.StructEq
namespace Go.Proofs.YtdagljakajpdjaaW.PrintWords
open Go.RowKit
section
variable {P : Program} {d : Nat} {xs ys : Array Value} {f : Field} {fs : List Field} {a b : Value} {r s : Bool} {w : World}
end
end Go.Proofs.YtdagljakajpdjaaW.PrintWords
