import Derived.Test.YtfhicidkhjcjlaaProg
import Derived.Below
import Derived.Deep.Draws
import Derived.Deep.AppendLies
import Derived.Maps.AppendAt
import Derived.OwnWalk
import Derived.Laws.BytesArg
import Derived.Laws.MakeOwn
import Derived.Laws.OwnMore
import Derived.Deep.OwnRows
import Derived.Tactics
import Derived.Lib.ConvBytes
import Derived.Laws.Slices
import Derived.WalkKit
import Derived.KernelRfl
import Derived.RowKit3
import Derived.Deep.LoopGhost
import Derived.Deep.QuietTactic
import Derived.BigQuiet
import Derived.WideLaws
import Derived.Deep.DeepCutAuto
import Derived.Deep.CutBlock
import Derived.Deep.RegionHeld3
import Derived.Laws.Rows
import Derived.Lib.AppendStr
import Derived.ArgAppend
import Derived.Laws.IdiomCopy
import Derived.OrdersHeld
import Derived.Laws.BitsLemmas
import Derived.RowKit
import Derived.Test.YtfhicidkhjcjlaaWWords
import Derived.Test.YtfhicidkhjcjlaaWLast
import Derived.Test.YtfhicidkhjcjlaaWTab
import Derived.Test.YtfhicidkhjcjlaaWFour
import Derived.Test.YtfhicidkhjcjlaaWQPut
import Derived.Test.YtfhicidkhjcjlaaWApart
import Derived.Test.YtfhicidkhjcjlaaWArr
import Derived.Test.YtfhicidkhjcjlaaWZeros
import Derived.Test.YtfhicidkhjcjlaaWFoot
import Derived.Test.YtfhicidkhjcjlaaWKept
import Derived.Test.YtfhicidkhjcjlaaWShare
import Derived.Test.YtfhicidkhjcjlaaWN
import Derived.Test.YtfhicidkhjcjlaaWFootNe
import Derived.Test.YtfhicidkhjcjlaaWAt
import Derived.Test.YtfhicidkhjcjlaaWEqStruct
import Derived.Test.YtfhicidkhjcjlaaWRepsOne
import Derived.Test.YtfhicidkhjcjlaaWInv
import Derived.Test.YtfhicidkhjcjlaaWInvWords
import Derived.Test.YtfhicidkhjcjlaaWGuard
import Derived.Test.YtfhicidkhjcjlaaWNEv
import Derived.Test.YtfhicidkhjcjlaaWMore
namespace Go.Proofs.Ytfhicidkhjcjlaa.QFnExactCountHands
open Go.RowKit Go.Proofs.YtfhicidkhjcjlaaW.PrintWords Go.Proofs.YtfhicidkhjcjlaaW.PrintLast Go.Proofs.YtfhicidkhjcjlaaW.PrintMore
attribute [local go_sem] max2_int min2_int max_two min_two max_three min_three max_four min_four   -- for this text's walks alone
set_option linter.unusedVariables false
set_option linter.unusedSimpArgs false



def errW : Option Int → Value
  | none => .nilIface
  | some c => .iface 0 (.int .i64 c)
theorem errW_none : errW none = .nilIface := rfl
theorem errW_some (c : Int) : errW (some c) = .iface 0 (.int .i64 c) := rfl

-- the values' own types

end Go.Proofs.Ytfhicidkhjcjlaa.QFnExactCountHands
