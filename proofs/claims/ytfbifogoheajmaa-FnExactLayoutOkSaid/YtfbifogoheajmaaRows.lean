/-
  No cell of these rows narrows 'for every input' (looked for: loops, veiled, ifaces, maps, wideKeys, modest, calm, conditions, laid).
  DERIVED. THE GIVEN ROWS OF THIS SEAT. 12 by the template 'for every input the law returns true; each argument reads behind the call as it read before'; 0 by the template 'total and deterministic' (their statements: YtfbifogoheajmaaTotals.lean).
  GIVEN WITH THE SEED: the statements are not yours to turn. If you find one false, say at which input.
  Laid BY PROGRAM, IN A SANDBOX (cutbox-rows.mjs): the forced cells as the released guide's own fill.sh prints them over the translation 2c75a9a92ce7eb86… (all of the seat's roots in one cut). By AI agents, Wed Nov 11 2026. No macro, syntax, notation, axiom, sorry.
-/
import Derived.Test.YtfbifogoheajmaaChecked
import GoSem.Claim
import GoSem.ClaimJoined
import GoSem.ClaimMapViews
import Derived.JoinedTies
import Derived.KernelRfl
namespace Go.Proofs.Ytfbifogoheajmaa
/- THE CELL 'sum', in the pinned program and in every row, IS THE sha256 OF THE DUMP (.gsa) THAT YtfbifogoheajmaaProg.lean LOADS. Nothing in Lean hashes anything: it is a label: what it is worth is what the hold of that sum in a sandbox is worth. -/
noncomputable def Try.pinned : Pinned := { name := "ytfbifogoheajmaa", sum := "2c75a9a92ce7eb869eb48ea0275a492c0ddfe7ec7221e9826fa0f57916c099da", checked := Try.checked }
namespace Rows
def none {H : Type} : Left H := { results := [], args := [] }

/-- 'laws.FnExactDecNew': WHATEVER THE INPUT: true; the input reads as it did. -/
def fnExactDecNewSpec : ChangeSpec := { name := "fnExactDecNew", fn := fun _ => fun
  | [] => { results := [.lit (.bool true)], args := [] }
  | _ => none }
def fnExactDecNewRow : OpenClaim := { program := "ytfbifogoheajmaa", sum := "2c75a9a92ce7eb869eb48ea0275a492c0ddfe7ec7221e9826fa0f57916c099da", func := "loop.example/g00960/laws.FnExactDecNew", spec := "fnExactDecNew", apart := false }
def FnExactDecNewSaid : Prop := fnExactDecNewRow.holds Try.pinned (OpenSpec.ofChange fnExactDecNewSpec)

/-- ITS FALSE NEIGHBOUR: 'it returns false'. Refute it at one input. -/
def fnExactDecNewWrong : ChangeSpec := { name := "fnExactDecNew", fn := fun _ => fun
  | [] => { results := [.lit (.bool false)], args := [] }
  | _ => none }
def FnExactDecNewWrongFalsely : Prop := fnExactDecNewRow.holds Try.pinned (OpenSpec.ofChange fnExactDecNewWrong)

/-- 'laws.FnExactLayoutOk': WHATEVER THE INPUT: true; the input reads as it did. -/
def fnExactLayoutOkSpec : ChangeSpec := { name := "fnExactLayoutOk", fn := fun _ => fun
  | [d] => { results := [.lit (.bool true)], args := [d] }
  | _ => none }
def fnExactLayoutOkRow : OpenClaim := { program := "ytfbifogoheajmaa", sum := "2c75a9a92ce7eb869eb48ea0275a492c0ddfe7ec7221e9826fa0f57916c099da", func := "loop.example/g00960/laws.FnExactLayoutOk", spec := "fnExactLayoutOk", apart := false }
def FnExactLayoutOkSaid : Prop := fnExactLayoutOkRow.holds Try.pinned (OpenSpec.ofChange fnExactLayoutOkSpec)

/-- ITS FALSE NEIGHBOUR: 'it returns false'. Refute it at one input. -/
def fnExactLayoutOkWrong : ChangeSpec := { name := "fnExactLayoutOk", fn := fun _ => fun
  | [d] => { results := [.lit (.bool false)], args := [d] }
  | _ => none }
def FnExactLayoutOkWrongFalsely : Prop := fnExactLayoutOkRow.holds Try.pinned (OpenSpec.ofChange fnExactLayoutOkWrong)

/-- 'laws.FnExactSkipPart': WHATEVER THE INPUT: true; the input reads as it did. -/
def fnExactSkipPartSpec : ChangeSpec := { name := "fnExactSkipPart", fn := fun _ => fun
  | [d1, d2] => { results := [.lit (.bool true)], args := [d1, d2] }
  | _ => none }
def fnExactSkipPartRow : OpenClaim := { program := "ytfbifogoheajmaa", sum := "2c75a9a92ce7eb869eb48ea0275a492c0ddfe7ec7221e9826fa0f57916c099da", func := "loop.example/g00960/laws.FnExactSkipPart", spec := "fnExactSkipPart", apart := false }
def FnExactSkipPartSaid : Prop := fnExactSkipPartRow.holds Try.pinned (OpenSpec.ofChange fnExactSkipPartSpec)

/-- ITS FALSE NEIGHBOUR: 'it returns false'. Refute it at one input. -/
def fnExactSkipPartWrong : ChangeSpec := { name := "fnExactSkipPart", fn := fun _ => fun
  | [d1, d2] => { results := [.lit (.bool false)], args := [d1, d2] }
  | _ => none }
def FnExactSkipPartWrongFalsely : Prop := fnExactSkipPartRow.holds Try.pinned (OpenSpec.ofChange fnExactSkipPartWrong)

/-- 'laws.FnExactQueueOk': WHATEVER THE INPUT: true; the input reads as it did. -/
def fnExactQueueOkSpec : ChangeSpec := { name := "fnExactQueueOk", fn := fun _ => fun
  | [d] => { results := [.lit (.bool true)], args := [d] }
  | _ => none }
def fnExactQueueOkRow : OpenClaim := { program := "ytfbifogoheajmaa", sum := "2c75a9a92ce7eb869eb48ea0275a492c0ddfe7ec7221e9826fa0f57916c099da", func := "loop.example/g00960/laws.FnExactQueueOk", spec := "fnExactQueueOk", apart := false }
def FnExactQueueOkSaid : Prop := fnExactQueueOkRow.holds Try.pinned (OpenSpec.ofChange fnExactQueueOkSpec)

/-- ITS FALSE NEIGHBOUR: 'it returns false'. Refute it at one input. -/
def fnExactQueueOkWrong : ChangeSpec := { name := "fnExactQueueOk", fn := fun _ => fun
  | [d] => { results := [.lit (.bool false)], args := [d] }
  | _ => none }
def FnExactQueueOkWrongFalsely : Prop := fnExactQueueOkRow.holds Try.pinned (OpenSpec.ofChange fnExactQueueOkWrong)

/-- 'laws.FnExactQueueHas': WHATEVER THE INPUT: true; the input reads as it did. -/
def fnExactQueueHasSpec : ChangeSpec := { name := "fnExactQueueHas", fn := fun _ => fun
  | [d1, d2] => { results := [.lit (.bool true)], args := [d1, d2] }
  | _ => none }
def fnExactQueueHasRow : OpenClaim := { program := "ytfbifogoheajmaa", sum := "2c75a9a92ce7eb869eb48ea0275a492c0ddfe7ec7221e9826fa0f57916c099da", func := "loop.example/g00960/laws.FnExactQueueHas", spec := "fnExactQueueHas", apart := false }
def FnExactQueueHasSaid : Prop := fnExactQueueHasRow.holds Try.pinned (OpenSpec.ofChange fnExactQueueHasSpec)

/-- ITS FALSE NEIGHBOUR: 'it returns false'. Refute it at one input. -/
def fnExactQueueHasWrong : ChangeSpec := { name := "fnExactQueueHas", fn := fun _ => fun
  | [d1, d2] => { results := [.lit (.bool false)], args := [d1, d2] }
  | _ => none }
def FnExactQueueHasWrongFalsely : Prop := fnExactQueueHasRow.holds Try.pinned (OpenSpec.ofChange fnExactQueueHasWrong)

/-- 'laws.FnExactAdmitOk': WHATEVER THE INPUT: true; the input reads as it did. -/
def fnExactAdmitOkSpec : ChangeSpec := { name := "fnExactAdmitOk", fn := fun _ => fun
  | [d] => { results := [.lit (.bool true)], args := [d] }
  | _ => none }
def fnExactAdmitOkRow : OpenClaim := { program := "ytfbifogoheajmaa", sum := "2c75a9a92ce7eb869eb48ea0275a492c0ddfe7ec7221e9826fa0f57916c099da", func := "loop.example/g00960/laws.FnExactAdmitOk", spec := "fnExactAdmitOk", apart := false }
def FnExactAdmitOkSaid : Prop := fnExactAdmitOkRow.holds Try.pinned (OpenSpec.ofChange fnExactAdmitOkSpec)

/-- ITS FALSE NEIGHBOUR: 'it returns false'. Refute it at one input. -/
def fnExactAdmitOkWrong : ChangeSpec := { name := "fnExactAdmitOk", fn := fun _ => fun
  | [d] => { results := [.lit (.bool false)], args := [d] }
  | _ => none }
def FnExactAdmitOkWrongFalsely : Prop := fnExactAdmitOkRow.holds Try.pinned (OpenSpec.ofChange fnExactAdmitOkWrong)

/-- 'laws.FnBestMove': WHATEVER THE INPUT: true; the input reads as it did. -/
def fnBestMoveSpec : ChangeSpec := { name := "fnBestMove", fn := fun _ => fun
  | [d] => { results := [.lit (.bool true)], args := [d] }
  | _ => none }
def fnBestMoveRow : OpenClaim := { program := "ytfbifogoheajmaa", sum := "2c75a9a92ce7eb869eb48ea0275a492c0ddfe7ec7221e9826fa0f57916c099da", func := "loop.example/g00960/laws.FnBestMove", spec := "fnBestMove", apart := false }
def FnBestMoveSaid : Prop := fnBestMoveRow.holds Try.pinned (OpenSpec.ofChange fnBestMoveSpec)

/-- ITS FALSE NEIGHBOUR: 'it returns false'. Refute it at one input. -/
def fnBestMoveWrong : ChangeSpec := { name := "fnBestMove", fn := fun _ => fun
  | [d] => { results := [.lit (.bool false)], args := [d] }
  | _ => none }
def FnBestMoveWrongFalsely : Prop := fnBestMoveRow.holds Try.pinned (OpenSpec.ofChange fnBestMoveWrong)

/-- 'laws.FnExactPacketsOf': WHATEVER THE INPUT: true; the input reads as it did. -/
def fnExactPacketsOfSpec : ChangeSpec := { name := "fnExactPacketsOf", fn := fun _ => fun
  | [d1, d2, d3] => { results := [.lit (.bool true)], args := [d1, d2, d3] }
  | _ => none }
def fnExactPacketsOfRow : OpenClaim := { program := "ytfbifogoheajmaa", sum := "2c75a9a92ce7eb869eb48ea0275a492c0ddfe7ec7221e9826fa0f57916c099da", func := "loop.example/g00960/laws.FnExactPacketsOf", spec := "fnExactPacketsOf", apart := false }
def FnExactPacketsOfSaid : Prop := fnExactPacketsOfRow.holds Try.pinned (OpenSpec.ofChange fnExactPacketsOfSpec)

/-- ITS FALSE NEIGHBOUR: 'it returns false'. Refute it at one input. -/
def fnExactPacketsOfWrong : ChangeSpec := { name := "fnExactPacketsOf", fn := fun _ => fun
  | [d1, d2, d3] => { results := [.lit (.bool false)], args := [d1, d2, d3] }
  | _ => none }
def FnExactPacketsOfWrongFalsely : Prop := fnExactPacketsOfRow.holds Try.pinned (OpenSpec.ofChange fnExactPacketsOfWrong)

/-- 'laws.FnExactGreyPart': WHATEVER THE INPUT: true; the input reads as it did. -/
def fnExactGreyPartSpec : ChangeSpec := { name := "fnExactGreyPart", fn := fun _ => fun
  | [d1, d2] => { results := [.lit (.bool true)], args := [d1, d2] }
  | _ => none }
def fnExactGreyPartRow : OpenClaim := { program := "ytfbifogoheajmaa", sum := "2c75a9a92ce7eb869eb48ea0275a492c0ddfe7ec7221e9826fa0f57916c099da", func := "loop.example/g00960/laws.FnExactGreyPart", spec := "fnExactGreyPart", apart := false }
def FnExactGreyPartSaid : Prop := fnExactGreyPartRow.holds Try.pinned (OpenSpec.ofChange fnExactGreyPartSpec)

/-- ITS FALSE NEIGHBOUR: 'it returns false'. Refute it at one input. -/
def fnExactGreyPartWrong : ChangeSpec := { name := "fnExactGreyPart", fn := fun _ => fun
  | [d1, d2] => { results := [.lit (.bool false)], args := [d1, d2] }
  | _ => none }
def FnExactGreyPartWrongFalsely : Prop := fnExactGreyPartRow.holds Try.pinned (OpenSpec.ofChange fnExactGreyPartWrong)

/-- 'laws.FnExactBestMove': WHATEVER THE INPUT: true; the input reads as it did. -/
def fnExactBestMoveSpec : ChangeSpec := { name := "fnExactBestMove", fn := fun _ => fun
  | [d1, d2, d3, d4, d5] => { results := [.lit (.bool true)], args := [d1, d2, d3, d4, d5] }
  | _ => none }
def fnExactBestMoveRow : OpenClaim := { program := "ytfbifogoheajmaa", sum := "2c75a9a92ce7eb869eb48ea0275a492c0ddfe7ec7221e9826fa0f57916c099da", func := "loop.example/g00960/laws.FnExactBestMove", spec := "fnExactBestMove", apart := false }
def FnExactBestMoveSaid : Prop := fnExactBestMoveRow.holds Try.pinned (OpenSpec.ofChange fnExactBestMoveSpec)

/-- ITS FALSE NEIGHBOUR: 'it returns false'. Refute it at one input. -/
def fnExactBestMoveWrong : ChangeSpec := { name := "fnExactBestMove", fn := fun _ => fun
  | [d1, d2, d3, d4, d5] => { results := [.lit (.bool false)], args := [d1, d2, d3, d4, d5] }
  | _ => none }
def FnExactBestMoveWrongFalsely : Prop := fnExactBestMoveRow.holds Try.pinned (OpenSpec.ofChange fnExactBestMoveWrong)

/-- 'laws.FnExactAdmitFits': WHATEVER THE INPUT: true; the input reads as it did. -/
def fnExactAdmitFitsSpec : ChangeSpec := { name := "fnExactAdmitFits", fn := fun _ => fun
  | [d1, d2, d3] => { results := [.lit (.bool true)], args := [d1, d2, d3] }
  | _ => none }
def fnExactAdmitFitsRow : OpenClaim := { program := "ytfbifogoheajmaa", sum := "2c75a9a92ce7eb869eb48ea0275a492c0ddfe7ec7221e9826fa0f57916c099da", func := "loop.example/g00960/laws.FnExactAdmitFits", spec := "fnExactAdmitFits", apart := false }
def FnExactAdmitFitsSaid : Prop := fnExactAdmitFitsRow.holds Try.pinned (OpenSpec.ofChange fnExactAdmitFitsSpec)

/-- ITS FALSE NEIGHBOUR: 'it returns false'. Refute it at one input. -/
def fnExactAdmitFitsWrong : ChangeSpec := { name := "fnExactAdmitFits", fn := fun _ => fun
  | [d1, d2, d3] => { results := [.lit (.bool false)], args := [d1, d2, d3] }
  | _ => none }
def FnExactAdmitFitsWrongFalsely : Prop := fnExactAdmitFitsRow.holds Try.pinned (OpenSpec.ofChange fnExactAdmitFitsWrong)

/-- 'laws.FnExactDecOk': WHATEVER THE INPUT: true; the input reads as it did. -/
def fnExactDecOkSpec : ChangeSpec := { name := "fnExactDecOk", fn := fun _ => fun
  | [d] => { results := [.lit (.bool true)], args := [d] }
  | _ => none }
def fnExactDecOkRow : OpenClaim := { program := "ytfbifogoheajmaa", sum := "2c75a9a92ce7eb869eb48ea0275a492c0ddfe7ec7221e9826fa0f57916c099da", func := "loop.example/g00960/laws.FnExactDecOk", spec := "fnExactDecOk", apart := false }
def FnExactDecOkSaid : Prop := fnExactDecOkRow.holds Try.pinned (OpenSpec.ofChange fnExactDecOkSpec)

/-- ITS FALSE NEIGHBOUR: 'it returns false'. Refute it at one input. -/
def fnExactDecOkWrong : ChangeSpec := { name := "fnExactDecOk", fn := fun _ => fun
  | [d] => { results := [.lit (.bool false)], args := [d] }
  | _ => none }
def FnExactDecOkWrongFalsely : Prop := fnExactDecOkRow.holds Try.pinned (OpenSpec.ofChange fnExactDecOkWrong)

/- THE SECOND FORM. 'bulk': how many values and letters a reading holds, each counted each time it is reached (what is shared counts as often as it is met; a slice's spare places count too). A statement '..UptoSaid' is the law's where the arguments, and the package variables that the reading takes, are together of bulk at most 1048576: NARROWER than '..Said'. Prove '..Said' where nothing that the law and all that it calls make is longer than what came in: it says more and counts as full. Else prove '..UptoSaid'. A law counts once. -/
mutual
def uptoBulk {H : Type} : DataW H → Nat
  | .lit (.string bytes) => bytes.length + 1
  | .lit _ => 1
  | .nil => 1
  | .ptr d => uptoBulk d + 1
  | .slice elems spare => uptoBulkAll elems + uptoBulkAll spare + 1
  | .agg parts => uptoBulkAll parts + 1
  | .iface _ d => uptoBulk d + 1
  | .map entries => uptoBulkEntries entries + 1
  | .held _ => 1
def uptoBulkAll {H : Type} : List (DataW H) → Nat
  | [] => 0
  | d :: r => uptoBulk d + uptoBulkAll r
def uptoBulkEntries {H : Type} : List (Lit × DataW H) → Nat
  | [] => 0
  | x :: r => uptoBulkEntry x + uptoBulkEntries r
def uptoBulkEntry {H : Type} : Lit × DataW H → Nat
  | (.string bytes, d) => bytes.length + uptoBulk d + 1
  | (_, d) => uptoBulk d + 1
 end
def uptoSmall : (H : Type) → List (DataW H) → Bool := fun _ ds => decide (uptoBulkAll ds ≤ 1048576)
def OpenSpec.upto (s : _root_.Go.ChangeSpec) : _root_.Go.OpenSpec := { _root_.Go.OpenSpec.ofChange s with cond := some uptoSmall }

/-- 'laws.FnExactDecNew', WHERE WHAT IT READS IS OF BULK AT MOST 1048576: true; the input reads as it did. -/
def fnExactDecNewUptoRow : OpenClaim := { program := "ytfbifogoheajmaa", sum := "2c75a9a92ce7eb869eb48ea0275a492c0ddfe7ec7221e9826fa0f57916c099da", func := "loop.example/g00960/laws.FnExactDecNew", spec := "fnExactDecNew", apart := false, narrowed := true }
def FnExactDecNewUptoSaid : Prop := fnExactDecNewUptoRow.holds Try.pinned (OpenSpec.upto fnExactDecNewSpec)

/-- 'laws.FnExactLayoutOk', WHERE WHAT IT READS IS OF BULK AT MOST 1048576: true; the input reads as it did. -/
def fnExactLayoutOkUptoRow : OpenClaim := { program := "ytfbifogoheajmaa", sum := "2c75a9a92ce7eb869eb48ea0275a492c0ddfe7ec7221e9826fa0f57916c099da", func := "loop.example/g00960/laws.FnExactLayoutOk", spec := "fnExactLayoutOk", apart := false, narrowed := true }
def FnExactLayoutOkUptoSaid : Prop := fnExactLayoutOkUptoRow.holds Try.pinned (OpenSpec.upto fnExactLayoutOkSpec)

/-- 'laws.FnExactSkipPart', WHERE WHAT IT READS IS OF BULK AT MOST 1048576: true; the input reads as it did. -/
def fnExactSkipPartUptoRow : OpenClaim := { program := "ytfbifogoheajmaa", sum := "2c75a9a92ce7eb869eb48ea0275a492c0ddfe7ec7221e9826fa0f57916c099da", func := "loop.example/g00960/laws.FnExactSkipPart", spec := "fnExactSkipPart", apart := false, narrowed := true }
def FnExactSkipPartUptoSaid : Prop := fnExactSkipPartUptoRow.holds Try.pinned (OpenSpec.upto fnExactSkipPartSpec)

/-- 'laws.FnExactQueueOk', WHERE WHAT IT READS IS OF BULK AT MOST 1048576: true; the input reads as it did. -/
def fnExactQueueOkUptoRow : OpenClaim := { program := "ytfbifogoheajmaa", sum := "2c75a9a92ce7eb869eb48ea0275a492c0ddfe7ec7221e9826fa0f57916c099da", func := "loop.example/g00960/laws.FnExactQueueOk", spec := "fnExactQueueOk", apart := false, narrowed := true }
def FnExactQueueOkUptoSaid : Prop := fnExactQueueOkUptoRow.holds Try.pinned (OpenSpec.upto fnExactQueueOkSpec)

/-- 'laws.FnExactQueueHas', WHERE WHAT IT READS IS OF BULK AT MOST 1048576: true; the input reads as it did. -/
def fnExactQueueHasUptoRow : OpenClaim := { program := "ytfbifogoheajmaa", sum := "2c75a9a92ce7eb869eb48ea0275a492c0ddfe7ec7221e9826fa0f57916c099da", func := "loop.example/g00960/laws.FnExactQueueHas", spec := "fnExactQueueHas", apart := false, narrowed := true }
def FnExactQueueHasUptoSaid : Prop := fnExactQueueHasUptoRow.holds Try.pinned (OpenSpec.upto fnExactQueueHasSpec)

/-- 'laws.FnExactAdmitOk', WHERE WHAT IT READS IS OF BULK AT MOST 1048576: true; the input reads as it did. -/
def fnExactAdmitOkUptoRow : OpenClaim := { program := "ytfbifogoheajmaa", sum := "2c75a9a92ce7eb869eb48ea0275a492c0ddfe7ec7221e9826fa0f57916c099da", func := "loop.example/g00960/laws.FnExactAdmitOk", spec := "fnExactAdmitOk", apart := false, narrowed := true }
def FnExactAdmitOkUptoSaid : Prop := fnExactAdmitOkUptoRow.holds Try.pinned (OpenSpec.upto fnExactAdmitOkSpec)

/-- 'laws.FnBestMove', WHERE WHAT IT READS IS OF BULK AT MOST 1048576: true; the input reads as it did. -/
def fnBestMoveUptoRow : OpenClaim := { program := "ytfbifogoheajmaa", sum := "2c75a9a92ce7eb869eb48ea0275a492c0ddfe7ec7221e9826fa0f57916c099da", func := "loop.example/g00960/laws.FnBestMove", spec := "fnBestMove", apart := false, narrowed := true }
def FnBestMoveUptoSaid : Prop := fnBestMoveUptoRow.holds Try.pinned (OpenSpec.upto fnBestMoveSpec)

/-- 'laws.FnExactPacketsOf', WHERE WHAT IT READS IS OF BULK AT MOST 1048576: true; the input reads as it did. -/
def fnExactPacketsOfUptoRow : OpenClaim := { program := "ytfbifogoheajmaa", sum := "2c75a9a92ce7eb869eb48ea0275a492c0ddfe7ec7221e9826fa0f57916c099da", func := "loop.example/g00960/laws.FnExactPacketsOf", spec := "fnExactPacketsOf", apart := false, narrowed := true }
def FnExactPacketsOfUptoSaid : Prop := fnExactPacketsOfUptoRow.holds Try.pinned (OpenSpec.upto fnExactPacketsOfSpec)

/-- 'laws.FnExactGreyPart', WHERE WHAT IT READS IS OF BULK AT MOST 1048576: true; the input reads as it did. -/
def fnExactGreyPartUptoRow : OpenClaim := { program := "ytfbifogoheajmaa", sum := "2c75a9a92ce7eb869eb48ea0275a492c0ddfe7ec7221e9826fa0f57916c099da", func := "loop.example/g00960/laws.FnExactGreyPart", spec := "fnExactGreyPart", apart := false, narrowed := true }
def FnExactGreyPartUptoSaid : Prop := fnExactGreyPartUptoRow.holds Try.pinned (OpenSpec.upto fnExactGreyPartSpec)

/-- 'laws.FnExactBestMove', WHERE WHAT IT READS IS OF BULK AT MOST 1048576: true; the input reads as it did. -/
def fnExactBestMoveUptoRow : OpenClaim := { program := "ytfbifogoheajmaa", sum := "2c75a9a92ce7eb869eb48ea0275a492c0ddfe7ec7221e9826fa0f57916c099da", func := "loop.example/g00960/laws.FnExactBestMove", spec := "fnExactBestMove", apart := false, narrowed := true }
def FnExactBestMoveUptoSaid : Prop := fnExactBestMoveUptoRow.holds Try.pinned (OpenSpec.upto fnExactBestMoveSpec)

/-- 'laws.FnExactAdmitFits', WHERE WHAT IT READS IS OF BULK AT MOST 1048576: true; the input reads as it did. -/
def fnExactAdmitFitsUptoRow : OpenClaim := { program := "ytfbifogoheajmaa", sum := "2c75a9a92ce7eb869eb48ea0275a492c0ddfe7ec7221e9826fa0f57916c099da", func := "loop.example/g00960/laws.FnExactAdmitFits", spec := "fnExactAdmitFits", apart := false, narrowed := true }
def FnExactAdmitFitsUptoSaid : Prop := fnExactAdmitFitsUptoRow.holds Try.pinned (OpenSpec.upto fnExactAdmitFitsSpec)

/-- 'laws.FnExactDecOk', WHERE WHAT IT READS IS OF BULK AT MOST 1048576: true; the input reads as it did. -/
def fnExactDecOkUptoRow : OpenClaim := { program := "ytfbifogoheajmaa", sum := "2c75a9a92ce7eb869eb48ea0275a492c0ddfe7ec7221e9826fa0f57916c099da", func := "loop.example/g00960/laws.FnExactDecOk", spec := "fnExactDecOk", apart := false, narrowed := true }
def FnExactDecOkUptoSaid : Prop := fnExactDecOkUptoRow.holds Try.pinned (OpenSpec.upto fnExactDecOkSpec)

end Rows
end Go.Proofs.Ytfbifogoheajmaa
