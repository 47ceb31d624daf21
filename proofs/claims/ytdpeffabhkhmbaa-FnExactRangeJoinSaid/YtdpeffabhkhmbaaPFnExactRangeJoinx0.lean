/- The machine's side of the law FnExactRangeJoin: each Go function that it reaches as a Lean function, and its contract. By a program of this work over the kit's print. -/
import Derived.Test.YtdpeffabhkhmbaaProg
import Derived.Test.YtdpeffabhkhmbaaNot
import Derived.Below
import Derived.Deep.Draws
import Derived.Deep.AppendLies
import Derived.Maps.AppendAt
import Derived.OwnWalk
import Derived.Laws.BytesArg
import Derived.Laws.MakeOwn
import Derived.Laws.OwnMore
import Derived.Deep.OwnRows
import Derived.Tactics
import Derived.Lib.ConvBytes
import Derived.Laws.Slices
import Derived.WalkKit
import Derived.KernelRfl
import Derived.RowKit3
import Derived.Deep.LoopGhost
import Derived.Deep.QuietTactic
import Derived.BigQuiet
import Derived.WideLaws
import Derived.Deep.DeepCutAuto
import Derived.Deep.CutBlock
import Derived.Deep.RegionHeld3
import Derived.Laws.Rows
import Derived.Lib.AppendStr
import Derived.ArgAppend
import Derived.Laws.IdiomCopy
import Derived.OrdersHeld
import Derived.Laws.BitsLemmas
import Derived.RowKit
import Derived.Test.YtdpeffabhkhmbaaShelf
import Derived.Test.YtdpeffabhkhmbaaWWords
import Derived.Test.YtdpeffabhkhmbaaWLast
import Derived.Test.YtdpeffabhkhmbaaWTab
import Derived.Test.YtdpeffabhkhmbaaWFour
import Derived.Test.YtdpeffabhkhmbaaWQPut
import Derived.Test.YtdpeffabhkhmbaaWApart
import Derived.Test.YtdpeffabhkhmbaaWArr
import Derived.Test.YtdpeffabhkhmbaaWZeros
import Derived.Test.YtdpeffabhkhmbaaWFoot
import Derived.Test.YtdpeffabhkhmbaaWKept
import Derived.Test.YtdpeffabhkhmbaaWShare
import Derived.Test.YtdpeffabhkhmbaaWN
import Derived.Test.YtdpeffabhkhmbaaWFootNe
import Derived.Test.YtdpeffabhkhmbaaWAt
import Derived.Test.YtdpeffabhkhmbaaWEqStruct
import Derived.Test.YtdpeffabhkhmbaaWRepsOne
import Derived.Test.YtdpeffabhkhmbaaWInv
import Derived.Test.YtdpeffabhkhmbaaWInvWords
import Derived.Test.YtdpeffabhkhmbaaWGuard
import Derived.Test.YtdpeffabhkhmbaaWNEv
import Derived.Test.YtdpeffabhkhmbaaWMore
namespace Go.Proofs.Ytdpeffabhkhmbaa.PFnExactRangeJoin
open Go.RowKit Go.Proofs.YtdpeffabhkhmbaaW.PrintWords Go.Proofs.YtdpeffabhkhmbaaW.PrintLast Go.Proofs.YtdpeffabhkhmbaaW.PrintMore
attribute [local go_sem] max2_int min2_int max_two min_two max_three min_three max_four min_four Go.Proofs.YtdpeffabhkhmbaaN.not_i64   -- for this text's walks alone
set_option linter.unusedVariables false
set_option linter.unusedSimpArgs false



def errW : Option Int → Value
  | none => .nilIface
  | some c => .iface 0 (.int .i64 c)
theorem errW_none : errW none = .nilIface := rfl
theorem errW_some (c : Int) : errW (some c) = .iface 0 (.int .i64 c) := rfl

-- the values' own types

end Go.Proofs.Ytdpeffabhkhmbaa.PFnExactRangeJoin
