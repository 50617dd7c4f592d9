import Derived.Test.YtdagljakajpdjaaProg
import Derived.Below
import Derived.Deep.Draws
import Derived.Deep.AppendLies
import Derived.Maps.AppendAt
import Derived.OwnWalk
import Derived.Laws.BytesArg
import Derived.Laws.MakeOwn
import Derived.Laws.OwnMore
import Derived.Deep.OwnRows
import Derived.Tactics
import Derived.Lib.ConvBytes
import Derived.Laws.Slices
import Derived.WalkKit
import Derived.KernelRfl
import Derived.RowKit3
import Derived.Deep.LoopGhost
import Derived.Deep.QuietTactic
import Derived.BigQuiet
import Derived.WideLaws
import Derived.Deep.DeepCutAuto
import Derived.Deep.CutBlock
import Derived.Deep.RegionHeld3
import Derived.Laws.Rows
import Derived.Lib.AppendStr
import Derived.ArgAppend
import Derived.Laws.IdiomCopy
import Derived.OrdersHeld
import Derived.Laws.BitsLemmas
import Derived.RowKit
import Derived.Test.YtdagljakajpdjaaZFnBlindsWWords
import Derived.Test.YtdagljakajpdjaaZFnBlindsWLast
import Derived.Test.YtdagljakajpdjaaZFnBlindsWTab
import Derived.Test.YtdagljakajpdjaaZFnBlindsWFour
import Derived.Test.YtdagljakajpdjaaZFnBlindsWQPut
import Derived.Test.YtdagljakajpdjaaZFnBlindsWApart
import Derived.Test.YtdagljakajpdjaaZFnBlindsWArr
import Derived.Test.YtdagljakajpdjaaZFnBlindsWZeros
import Derived.Test.YtdagljakajpdjaaZFnBlindsWFoot
import Derived.Test.YtdagljakajpdjaaZFnBlindsWKept
import Derived.Test.YtdagljakajpdjaaZFnBlindsWShare
import Derived.Test.YtdagljakajpdjaaZFnBlindsWN
import Derived.Test.YtdagljakajpdjaaZFnBlindsWFootNe
import Derived.Test.YtdagljakajpdjaaZFnBlindsWAt
import Derived.Test.YtdagljakajpdjaaZFnBlindsWEqStruct
import Derived.Test.YtdagljakajpdjaaZFnBlindsWRepsOne
import Derived.Test.YtdagljakajpdjaaZFnBlindsWInv
import Derived.Test.YtdagljakajpdjaaZFnBlindsWInvWords
import Derived.Test.YtdagljakajpdjaaZFnBlindsWGuard
import Derived.Test.YtdagljakajpdjaaZFnBlindsWNEv
import Derived.Test.YtdagljakajpdjaaZFnBlindsWMore
namespace Go.Proofs.Ytdagljakajpdjaa.QFnBlinds
open Go.RowKit Go.Proofs.YtdagljakajpdjaaW.PrintWords Go.Proofs.YtdagljakajpdjaaW.PrintLast Go.Proofs.YtdagljakajpdjaaW.PrintMore
attribute [local go_sem] max2_int min2_int max_two min_two max_three min_three max_four min_four
set_option linter.unusedVariables false
set_option linter.unusedSimpArgs false
def errW : Option Int → Value
  | none => .nilIface
  | some c => .iface 0 (.int .i64 c)
theorem errW_none : errW none = .nilIface := rfl
theorem errW_some (c : Int) : errW (some c) = .iface 0 (.int .i64 c) := rfl
theorem info2 : (Try.prog.info? 2).map (fun i => (i.zero, i.size, i.bytes)) = some (some (.int .i64 0), 1, 8) := by kernel_rfl
end Go.Proofs.Ytdagljakajpdjaa.QFnBlinds
