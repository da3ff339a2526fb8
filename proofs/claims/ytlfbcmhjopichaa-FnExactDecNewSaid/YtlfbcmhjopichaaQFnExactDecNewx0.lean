/- Contracts of the functions that a law reaches: each Go function comes to what its Lean function tells. Written by this session's own program. Conditions: as each statement tells. -/
import Derived.Test.YtlfbcmhjopichaaProg
import Derived.Below
import Derived.Deep.Draws
import Derived.Deep.AppendLies
import Derived.Maps.AppendAt
import Derived.OwnWalk
import Derived.Laws.BytesArg
import Derived.Laws.MakeOwn
import Derived.Laws.OwnMore
import Derived.Deep.OwnRows
import Derived.Tactics
import Derived.Lib.ConvBytes
import Derived.Laws.Slices
import Derived.WalkKit
import Derived.KernelRfl
import Derived.RowKit3
import Derived.Deep.LoopGhost
import Derived.Deep.QuietTactic
import Derived.BigQuiet
import Derived.WideLaws
import Derived.Deep.DeepCutAuto
import Derived.Deep.CutBlock
import Derived.Deep.RegionHeld3
import Derived.Laws.Rows
import Derived.Lib.AppendStr
import Derived.ArgAppend
import Derived.Laws.IdiomCopy
import Derived.OrdersHeld
import Derived.Laws.BitsLemmas
import Derived.RowKit
import Derived.Test.YtlfbcmhjopichaaKFnExactDecNewa
namespace Go.Proofs.Ytlfbcmhjopichaa.QFnExactDecNew
open Go.RowKit Go.Proofs.YtlfbcmhjopichaaW.PrintWords Go.Proofs.YtlfbcmhjopichaaW.PrintLast Go.Proofs.YtlfbcmhjopichaaW.PrintMore
attribute [local go_sem] i64_w i32_w w64_m256 max2_int min2_int max_two min_two max_three min_three max_four min_four   -- for this text's walks alone
set_option linter.unusedVariables false
set_option linter.unusedSimpArgs false



def errW : Option Int → Value
  | none => .nilIface
  | some c => .iface 0 (.int .i64 c)
theorem errW_none : errW none = .nilIface := rfl
theorem errW_some (c : Int) : errW (some c) = .iface 0 (.int .i64 c) := rfl

-- the values' own types

end Go.Proofs.Ytlfbcmhjopichaa.QFnExactDecNew
