import Derived.Test.YtdagljakajpdjaaProg
import Derived.Below
import Derived.Deep.Draws
import Derived.Deep.AppendLies
import Derived.Maps.AppendAt
import Derived.OwnWalk
import Derived.Laws.BytesArg
import Derived.Laws.MakeOwn
import Derived.Laws.OwnMore
import Derived.Deep.OwnRows
import Derived.Tactics
import Derived.Lib.ConvBytes
import Derived.Laws.Slices
import Derived.WalkKit
import Derived.KernelRfl
import Derived.RowKit3
import Derived.Deep.LoopGhost
import Derived.Deep.QuietTactic
import Derived.BigQuiet
import Derived.WideLaws
import Derived.Deep.DeepCutAuto
import Derived.Deep.CutBlock
import Derived.Deep.RegionHeld3
import Derived.Laws.Rows
import Derived.Lib.AppendStr
import Derived.ArgAppend
import Derived.Laws.IdiomCopy
import Derived.OrdersHeld
import Derived.Laws.BitsLemmas
import Derived.RowKit
import Derived.Test.YtdagljakajpdjaaZFnExactNextTableWWords
import Derived.Test.YtdagljakajpdjaaZFnExactNextTableWLast
import Derived.Test.YtdagljakajpdjaaZFnExactNextTableWTab
import Derived.Test.YtdagljakajpdjaaZFnExactNextTableWFour
import Derived.Test.YtdagljakajpdjaaZFnExactNextTableWQPut
import Derived.Test.YtdagljakajpdjaaZFnExactNextTableWApart
import Derived.Test.YtdagljakajpdjaaZFnExactNextTableWArr
import Derived.Test.YtdagljakajpdjaaZFnExactNextTableWZeros
import Derived.Test.YtdagljakajpdjaaZFnExactNextTableWFoot
import Derived.Test.YtdagljakajpdjaaZFnExactNextTableWKept
import Derived.Test.YtdagljakajpdjaaZFnExactNextTableWShare
import Derived.Test.YtdagljakajpdjaaZFnExactNextTableWN
import Derived.Test.YtdagljakajpdjaaZFnExactNextTableWFootNe
import Derived.Test.YtdagljakajpdjaaZFnExactNextTableWAt
import Derived.Test.YtdagljakajpdjaaZFnExactNextTableWEqStruct
import Derived.Test.YtdagljakajpdjaaZFnExactNextTableWRepsOne
import Derived.Test.YtdagljakajpdjaaZFnExactNextTableWInv
import Derived.Test.YtdagljakajpdjaaZFnExactNextTableWInvWords
import Derived.Test.YtdagljakajpdjaaZFnExactNextTableWGuard
import Derived.Test.YtdagljakajpdjaaZFnExactNextTableWNEv
import Derived.Test.YtdagljakajpdjaaZFnExactNextTableWMore
import Derived.Test.YtdagljakajpdjaaZFnExactNextTableWSh
namespace Go.Proofs.Ytdagljakajpdjaa.QFnExactNextTable
open Go.RowKit Go.Proofs.YtdagljakajpdjaaW.PrintWords Go.Proofs.YtdagljakajpdjaaW.PrintLast Go.Proofs.YtdagljakajpdjaaW.PrintMore
attribute [local go_sem] max2_int min2_int max_two min_two max_three min_three max_four min_four
set_option linter.unusedVariables false
set_option linter.unusedSimpArgs false
def errW : Option Int → Value
 | none => .nilIface
 | some c => .iface 0 (.int .i64 c)
theorem errW_none : errW none = .nilIface := rfl
theorem errW_some (c : Int) : errW (some c) = .iface 0 (.int .i64 c) := rfl
theorem info2 : (Try.prog.info? 2).map (fun i => (i.zero, i.size, i.bytes)) = some (some (.int .i64 0), 1, 8) := by kernel_rfl
end Go.Proofs.Ytdagljakajpdjaa.QFnExactNextTable
