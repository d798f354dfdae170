/- The functions that the law FnExactTileUp reaches, each with what it computes and its contract. -/
import Derived.Test.YtglefkldomabdaaProg
import Derived.Below
import Derived.Deep.Draws
import Derived.Deep.AppendLies
import Derived.Maps.AppendAt
import Derived.OwnWalk
import Derived.Laws.BytesArg
import Derived.Laws.MakeOwn
import Derived.Laws.OwnMore
import Derived.Deep.OwnRows
import Derived.Tactics
import Derived.Lib.ConvBytes
import Derived.Laws.Slices
import Derived.WalkKit
import Derived.KernelRfl
import Derived.RowKit3
import Derived.Deep.LoopGhost
import Derived.Deep.QuietTactic
import Derived.BigQuiet
import Derived.WideLaws
import Derived.Deep.DeepCutAuto
import Derived.Deep.CutBlock
import Derived.Deep.RegionHeld3
import Derived.Laws.Rows
import Derived.Lib.AppendStr
import Derived.ArgAppend
import Derived.Laws.IdiomCopy
import Derived.OrdersHeld
import Derived.Laws.BitsLemmas
import Derived.RowKit
import Derived.Test.YtglefkldomabdaaWWords
import Derived.Test.YtglefkldomabdaaWLast
import Derived.Test.YtglefkldomabdaaWTab
import Derived.Test.YtglefkldomabdaaWFour
import Derived.Test.YtglefkldomabdaaWQPut
import Derived.Test.YtglefkldomabdaaWApart
import Derived.Test.YtglefkldomabdaaWArr
import Derived.Test.YtglefkldomabdaaWZeros
import Derived.Test.YtglefkldomabdaaWFoot
import Derived.Test.YtglefkldomabdaaWKept
import Derived.Test.YtglefkldomabdaaWShare
import Derived.Test.YtglefkldomabdaaWN
import Derived.Test.YtglefkldomabdaaWFootNe
import Derived.Test.YtglefkldomabdaaWAt
import Derived.Test.YtglefkldomabdaaWEqStruct
import Derived.Test.YtglefkldomabdaaWRepsOne
import Derived.Test.YtglefkldomabdaaWInv
import Derived.Test.YtglefkldomabdaaWInvWords
import Derived.Test.YtglefkldomabdaaWGuard
import Derived.Test.YtglefkldomabdaaWNEv
import Derived.Test.YtglefkldomabdaaWMore
namespace Go.Proofs.Ytglefkldomabdaa.PFnExactTileUp
open Go.RowKit Go.Proofs.YtglefkldomabdaaW.PrintWords Go.Proofs.YtglefkldomabdaaW.PrintLast Go.Proofs.YtglefkldomabdaaW.PrintMore
attribute [local go_sem] max2_int min2_int max_two min_two max_three min_three max_four min_four   -- for this text's walks alone
set_option linter.unusedVariables false
set_option linter.unusedSimpArgs false



def errW : Option Int → Value
  | none => .nilIface
  | some c => .iface 0 (.int .i64 c)
theorem errW_none : errW none = .nilIface := rfl
theorem errW_some (c : Int) : errW (some c) = .iface 0 (.int .i64 c) := rfl

-- the values' own types

end Go.Proofs.Ytglefkldomabdaa.PFnExactTileUp
