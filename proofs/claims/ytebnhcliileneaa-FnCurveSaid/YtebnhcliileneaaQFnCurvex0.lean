/- The functions that the law FnCurve reaches, each with what it computes and its contract. -/
import Derived.Test.YtebnhcliileneaaProg
import Derived.Below
import Derived.Deep.Draws
import Derived.Deep.AppendLies
import Derived.Maps.AppendAt
import Derived.OwnWalk
import Derived.Laws.BytesArg
import Derived.Laws.MakeOwn
import Derived.Laws.OwnMore
import Derived.Deep.OwnRows
import Derived.Tactics
import Derived.Lib.ConvBytes
import Derived.Laws.Slices
import Derived.WalkKit
import Derived.KernelRfl
import Derived.RowKit3
import Derived.Deep.LoopGhost
import Derived.Deep.QuietTactic
import Derived.BigQuiet
import Derived.WideLaws
import Derived.Deep.DeepCutAuto
import Derived.Deep.CutBlock
import Derived.Deep.RegionHeld3
import Derived.Laws.Rows
import Derived.Lib.AppendStr
import Derived.ArgAppend
import Derived.Laws.IdiomCopy
import Derived.OrdersHeld
import Derived.Laws.BitsLemmas
import Derived.RowKit
import Derived.Test.YtebnhcliileneaaWWords
import Derived.Test.YtebnhcliileneaaWLast
import Derived.Test.YtebnhcliileneaaWTab
import Derived.Test.YtebnhcliileneaaWFour
import Derived.Test.YtebnhcliileneaaWQPut
import Derived.Test.YtebnhcliileneaaWApart
import Derived.Test.YtebnhcliileneaaWArr
import Derived.Test.YtebnhcliileneaaWZeros
import Derived.Test.YtebnhcliileneaaWFoot
import Derived.Test.YtebnhcliileneaaWKept
import Derived.Test.YtebnhcliileneaaWShare
import Derived.Test.YtebnhcliileneaaWN
import Derived.Test.YtebnhcliileneaaWFootNe
import Derived.Test.YtebnhcliileneaaWAt
import Derived.Test.YtebnhcliileneaaWEqStruct
import Derived.Test.YtebnhcliileneaaWRepsOne
import Derived.Test.YtebnhcliileneaaWInv
import Derived.Test.YtebnhcliileneaaWInvWords
import Derived.Test.YtebnhcliileneaaWGuard
import Derived.Test.YtebnhcliileneaaWNEv
import Derived.Test.YtebnhcliileneaaWMore
namespace Go.Proofs.Ytebnhcliileneaa.PFnCurve
open Go.RowKit Go.Proofs.YtebnhcliileneaaW.PrintWords Go.Proofs.YtebnhcliileneaaW.PrintLast Go.Proofs.YtebnhcliileneaaW.PrintMore
attribute [local go_sem] max2_int min2_int max_two min_two max_three min_three max_four min_four   -- for this text's walks alone
set_option linter.unusedVariables false
set_option linter.unusedSimpArgs false



def errW : Option Int → Value
  | none => .nilIface
  | some c => .iface 0 (.int .i64 c)
theorem errW_none : errW none = .nilIface := rfl
theorem errW_some (c : Int) : errW (some c) = .iface 0 (.int .i64 c) := rfl

theorem info3 : (Try.prog.info? 3).map (fun i => (i.zero, i.size, i.bytes)) = some (some (.int .i64 0), 1, 8) := by kernel_rfl
-- the values' own types

end Go.Proofs.Ytebnhcliileneaa.PFnCurve
