import Derived.Test.YtdagljakajpdjaaProg
import Derived.Below
import Derived.Deep.Draws
import Derived.Deep.AppendLies
import Derived.Maps.AppendAt
import Derived.OwnWalk
import Derived.Laws.BytesArg
import Derived.Laws.MakeOwn
import Derived.Laws.OwnMore
import Derived.Deep.OwnRows
import Derived.Tactics
import Derived.Lib.ConvBytes
import Derived.Laws.Slices
import Derived.WalkKit
import Derived.KernelRfl
import Derived.RowKit3
import Derived.Deep.LoopGhost
import Derived.Deep.QuietTactic
import Derived.BigQuiet
import Derived.WideLaws
import Derived.Deep.DeepCutAuto
import Derived.Deep.CutBlock
import Derived.Deep.RegionHeld3
import Derived.Laws.Rows
import Derived.Lib.AppendStr
import Derived.ArgAppend
import Derived.Laws.IdiomCopy
import Derived.OrdersHeld
import Derived.Laws.BitsLemmas
import Derived.RowKit
import Derived.Test.YtdagljakajpdjaaZFnSeatsWWords
import Derived.Test.YtdagljakajpdjaaZFnSeatsWLast
import Derived.Test.YtdagljakajpdjaaZFnSeatsWTab
import Derived.Test.YtdagljakajpdjaaZFnSeatsWFour
import Derived.Test.YtdagljakajpdjaaZFnSeatsWQPut
import Derived.Test.YtdagljakajpdjaaZFnSeatsWApart
import Derived.Test.YtdagljakajpdjaaZFnSeatsWArr
import Derived.Test.YtdagljakajpdjaaZFnSeatsWZeros
import Derived.Test.YtdagljakajpdjaaZFnSeatsWFoot
import Derived.Test.YtdagljakajpdjaaZFnSeatsWKept
import Derived.Test.YtdagljakajpdjaaZFnSeatsWShare
import Derived.Test.YtdagljakajpdjaaZFnSeatsWN
import Derived.Test.YtdagljakajpdjaaZFnSeatsWFootNe
import Derived.Test.YtdagljakajpdjaaZFnSeatsWAt
import Derived.Test.YtdagljakajpdjaaZFnSeatsWEqStruct
import Derived.Test.YtdagljakajpdjaaZFnSeatsWRepsOne
import Derived.Test.YtdagljakajpdjaaZFnSeatsWInv
import Derived.Test.YtdagljakajpdjaaZFnSeatsWInvWords
import Derived.Test.YtdagljakajpdjaaZFnSeatsWGuard
import Derived.Test.YtdagljakajpdjaaZFnSeatsWNEv
import Derived.Test.YtdagljakajpdjaaZFnSeatsWMore
namespace Go.Proofs.Ytdagljakajpdjaa.QFnSeats
open Go.RowKit Go.Proofs.YtdagljakajpdjaaW.PrintWords Go.Proofs.YtdagljakajpdjaaW.PrintLast Go.Proofs.YtdagljakajpdjaaW.PrintMore
attribute [local go_sem] max2_int min2_int max_two min_two max_three min_three max_four min_four
set_option linter.unusedVariables false
set_option linter.unusedSimpArgs false
def errW : Option Int → Value
  | none => .nilIface
  | some c => .iface 0 (.int .i64 c)
theorem errW_none : errW none = .nilIface := rfl
theorem errW_some (c : Int) : errW (some c) = .iface 0 (.int .i64 c) := rfl
theorem info2 : (Try.prog.info? 2).map (fun i => (i.zero, i.size, i.bytes)) = some (some (.int .i64 0), 1, 8) := by kernel_rfl
end Go.Proofs.Ytdagljakajpdjaa.QFnSeats
