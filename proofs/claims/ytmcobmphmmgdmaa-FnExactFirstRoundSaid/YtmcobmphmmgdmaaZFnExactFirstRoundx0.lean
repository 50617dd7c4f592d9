import Derived.Test.YtmcobmphmmgdmaaProg
import Derived.Below
import Derived.Deep.Draws
import Derived.Deep.AppendLies
import Derived.Maps.AppendAt
import Derived.OwnWalk
import Derived.Laws.BytesArg
import Derived.Laws.MakeOwn
import Derived.Laws.OwnMore
import Derived.Deep.OwnRows
import Derived.Tactics
import Derived.Lib.ConvBytes
import Derived.Laws.Slices
import Derived.WalkKit
import Derived.KernelRfl
import Derived.RowKit3
import Derived.Deep.LoopGhost
import Derived.Deep.QuietTactic
import Derived.BigQuiet
import Derived.WideLaws
import Derived.Deep.DeepCutAuto
import Derived.Deep.CutBlock
import Derived.Deep.RegionHeld3
import Derived.Laws.Rows
import Derived.Lib.AppendStr
import Derived.ArgAppend
import Derived.Laws.IdiomCopy
import Derived.OrdersHeld
import Derived.Laws.BitsLemmas
import Derived.RowKit
import Derived.Test.YtmcobmphmmgdmaaZFnExactFirstRoundWWords
import Derived.Test.YtmcobmphmmgdmaaZFnExactFirstRoundWLast
import Derived.Test.YtmcobmphmmgdmaaZFnExactFirstRoundWTab
import Derived.Test.YtmcobmphmmgdmaaZFnExactFirstRoundWFour
import Derived.Test.YtmcobmphmmgdmaaZFnExactFirstRoundWQPut
import Derived.Test.YtmcobmphmmgdmaaZFnExactFirstRoundWApart
import Derived.Test.YtmcobmphmmgdmaaZFnExactFirstRoundWArr
import Derived.Test.YtmcobmphmmgdmaaZFnExactFirstRoundWZeros
import Derived.Test.YtmcobmphmmgdmaaZFnExactFirstRoundWFoot
import Derived.Test.YtmcobmphmmgdmaaZFnExactFirstRoundWKept
import Derived.Test.YtmcobmphmmgdmaaZFnExactFirstRoundWShare
import Derived.Test.YtmcobmphmmgdmaaZFnExactFirstRoundWN
import Derived.Test.YtmcobmphmmgdmaaZFnExactFirstRoundWFootNe
import Derived.Test.YtmcobmphmmgdmaaZFnExactFirstRoundWAt
import Derived.Test.YtmcobmphmmgdmaaZFnExactFirstRoundWEqStruct
import Derived.Test.YtmcobmphmmgdmaaZFnExactFirstRoundWRepsOne
import Derived.Test.YtmcobmphmmgdmaaZFnExactFirstRoundWInv
import Derived.Test.YtmcobmphmmgdmaaZFnExactFirstRoundWInvWords
import Derived.Test.YtmcobmphmmgdmaaZFnExactFirstRoundWGuard
import Derived.Test.YtmcobmphmmgdmaaZFnExactFirstRoundWNEv
import Derived.Test.YtmcobmphmmgdmaaZFnExactFirstRoundWMore
import Derived.Test.YtmcobmphmmgdmaaZFnExactFirstRoundWSh
namespace Go.Proofs.Ytmcobmphmmgdmaa.QFnExactFirstRound
open Go.RowKit Go.Proofs.YtmcobmphmmgdmaaW.PrintWords Go.Proofs.YtmcobmphmmgdmaaW.PrintLast Go.Proofs.YtmcobmphmmgdmaaW.PrintMore
attribute [local go_sem] max2_int min2_int max_two min_two max_three min_three max_four min_four
set_option linter.unusedVariables false
set_option linter.unusedSimpArgs false
def errW : Option Int → Value
 | none => .nilIface
 | some c => .iface 0 (.int .i64 c)
theorem errW_none : errW none = .nilIface := rfl
theorem errW_some (c : Int) : errW (some c) = .iface 0 (.int .i64 c) := rfl
theorem info2 : (Try.prog.info? 2).map (fun i => (i.zero, i.size, i.bytes)) = some (some (.int .i64 0), 1, 8) := by kernel_rfl
theorem info4 : (Try.prog.info? 4).map (fun i => (i.zero, i.size, i.bytes)) = some (some (.bool false), 1, 1) := by kernel_rfl
end Go.Proofs.Ytmcobmphmmgdmaa.QFnExactFirstRound
