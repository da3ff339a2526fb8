/- Contracts of the functions that a law reaches: each Go function comes to what its Lean function tells. Written by this session's own program. Conditions: as each statement tells. -/
import Derived.Test.YtgknomboljhhnaaProg
import Derived.Below
import Derived.Deep.Draws
import Derived.Deep.AppendLies
import Derived.Maps.AppendAt
import Derived.OwnWalk
import Derived.Laws.BytesArg
import Derived.Laws.MakeOwn
import Derived.Laws.OwnMore
import Derived.Deep.OwnRows
import Derived.Tactics
import Derived.Lib.ConvBytes
import Derived.Laws.Slices
import Derived.WalkKit
import Derived.KernelRfl
import Derived.RowKit3
import Derived.Deep.LoopGhost
import Derived.Deep.QuietTactic
import Derived.BigQuiet
import Derived.WideLaws
import Derived.Deep.DeepCutAuto
import Derived.Deep.CutBlock
import Derived.Deep.RegionHeld3
import Derived.Laws.Rows
import Derived.Lib.AppendStr
import Derived.ArgAppend
import Derived.Laws.IdiomCopy
import Derived.OrdersHeld
import Derived.Laws.BitsLemmas
import Derived.RowKit
import Derived.Test.YtgknomboljhhnaaWWords
import Derived.Test.YtgknomboljhhnaaWLast
import Derived.Test.YtgknomboljhhnaaWTab
import Derived.Test.YtgknomboljhhnaaWFour
import Derived.Test.YtgknomboljhhnaaWQPut
import Derived.Test.YtgknomboljhhnaaWApart
import Derived.Test.YtgknomboljhhnaaWArr
import Derived.Test.YtgknomboljhhnaaWZeros
import Derived.Test.YtgknomboljhhnaaWFoot
import Derived.Test.YtgknomboljhhnaaWKept
import Derived.Test.YtgknomboljhhnaaWShare
import Derived.Test.YtgknomboljhhnaaWN
import Derived.Test.YtgknomboljhhnaaWFootNe
import Derived.Test.YtgknomboljhhnaaWAt
import Derived.Test.YtgknomboljhhnaaWEqStruct
import Derived.Test.YtgknomboljhhnaaWRepsOne
import Derived.Test.YtgknomboljhhnaaWInv
import Derived.Test.YtgknomboljhhnaaWInvWords
import Derived.Test.YtgknomboljhhnaaWGuard
import Derived.Test.YtgknomboljhhnaaWNEv
import Derived.Test.YtgknomboljhhnaaWMore
import Derived.Test.YtgknomboljhhnaaXWords
namespace Go.Proofs.Ytgknomboljhhnaa.QFnRound
open Go.RowKit Go.Proofs.YtgknomboljhhnaaW.PrintWords Go.Proofs.YtgknomboljhhnaaW.PrintLast Go.Proofs.YtgknomboljhhnaaW.PrintMore
attribute [local go_sem] max2_int min2_int max_two min_two max_three min_three max_four min_four   -- for this text's walks alone
set_option linter.unusedVariables false
set_option linter.unusedSimpArgs false



def errW : Option Int → Value
  | none => .nilIface
  | some c => .iface 0 (.int .i64 c)
theorem errW_none : errW none = .nilIface := rfl
theorem errW_some (c : Int) : errW (some c) = .iface 0 (.int .i64 c) := rfl

theorem info3 : (Try.prog.info? 3).map (fun i => (i.zero, i.size, i.bytes)) = some (some (.int .i64 0), 1, 8) := by kernel_rfl
-- the values' own types

end Go.Proofs.Ytgknomboljhhnaa.QFnRound
