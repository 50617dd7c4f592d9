import Derived.Test.YtmcobmphmmgdmaaProg
import Derived.Below
import Derived.Deep.Draws
import Derived.Deep.AppendLies
import Derived.Maps.AppendAt
import Derived.OwnWalk
import Derived.Laws.BytesArg
import Derived.Laws.MakeOwn
import Derived.Laws.OwnMore
import Derived.Deep.OwnRows
import Derived.Tactics
import Derived.Lib.ConvBytes
import Derived.Laws.Slices
import Derived.WalkKit
import Derived.KernelRfl
import Derived.RowKit3
import Derived.Deep.LoopGhost
import Derived.Deep.QuietTactic
import Derived.BigQuiet
import Derived.WideLaws
import Derived.Deep.DeepCutAuto
import Derived.Deep.CutBlock
import Derived.Deep.RegionHeld3
import Derived.Laws.Rows
import Derived.Lib.AppendStr
import Derived.ArgAppend
import Derived.Laws.IdiomCopy
import Derived.OrdersHeld
import Derived.Laws.BitsLemmas
import Derived.RowKit
import Derived.Test.YtmcobmphmmgdmaaZFnExactWinnerByFoldsWWords
import Derived.Test.YtmcobmphmmgdmaaZFnExactWinnerByFoldsWLast
import Derived.Test.YtmcobmphmmgdmaaZFnExactWinnerByFoldsWTab
import Derived.Test.YtmcobmphmmgdmaaZFnExactWinnerByFoldsWFour
import Derived.Test.YtmcobmphmmgdmaaZFnExactWinnerByFoldsWQPut
import Derived.Test.YtmcobmphmmgdmaaZFnExactWinnerByFoldsWApart
import Derived.Test.YtmcobmphmmgdmaaZFnExactWinnerByFoldsWArr
import Derived.Test.YtmcobmphmmgdmaaZFnExactWinnerByFoldsWZeros
import Derived.Test.YtmcobmphmmgdmaaZFnExactWinnerByFoldsWFoot
import Derived.Test.YtmcobmphmmgdmaaZFnExactWinnerByFoldsWKept
import Derived.Test.YtmcobmphmmgdmaaZFnExactWinnerByFoldsWShare
import Derived.Test.YtmcobmphmmgdmaaZFnExactWinnerByFoldsWN
import Derived.Test.YtmcobmphmmgdmaaZFnExactWinnerByFoldsWFootNe
import Derived.Test.YtmcobmphmmgdmaaZFnExactWinnerByFoldsWAt
import Derived.Test.YtmcobmphmmgdmaaZFnExactWinnerByFoldsWEqStruct
import Derived.Test.YtmcobmphmmgdmaaZFnExactWinnerByFoldsWRepsOne
import Derived.Test.YtmcobmphmmgdmaaZFnExactWinnerByFoldsWInv
import Derived.Test.YtmcobmphmmgdmaaZFnExactWinnerByFoldsWInvWords
import Derived.Test.YtmcobmphmmgdmaaZFnExactWinnerByFoldsWGuard
import Derived.Test.YtmcobmphmmgdmaaZFnExactWinnerByFoldsWNEv
import Derived.Test.YtmcobmphmmgdmaaZFnExactWinnerByFoldsWMore
namespace Go.Proofs.Ytmcobmphmmgdmaa.QFnExactWinnerByFolds
open Go.RowKit Go.Proofs.YtmcobmphmmgdmaaW.PrintWords Go.Proofs.YtmcobmphmmgdmaaW.PrintLast Go.Proofs.YtmcobmphmmgdmaaW.PrintMore
attribute [local go_sem] max2_int min2_int max_two min_two max_three min_three max_four min_four
set_option linter.unusedVariables false
set_option linter.unusedSimpArgs false
def errW : Option Int → Value
  | none => .nilIface
  | some c => .iface 0 (.int .i64 c)
theorem errW_none : errW none = .nilIface := rfl
theorem errW_some (c : Int) : errW (some c) = .iface 0 (.int .i64 c) := rfl
theorem info2 : (Try.prog.info? 2).map (fun i => (i.zero, i.size, i.bytes)) = some (some (.int .i64 0), 1, 8) := by kernel_rfl
theorem info4 : (Try.prog.info? 4).map (fun i => (i.zero, i.size, i.bytes)) = some (some (.bool false), 1, 1) := by kernel_rfl
end Go.Proofs.Ytmcobmphmmgdmaa.QFnExactWinnerByFolds
