/-
  No cell of these rows narrows 'for every input' (looked for: loops, veiled, ifaces, maps, wideKeys, modest, calm, conditions, laid).
  DERIVED. THE GIVEN ROWS OF THIS SEAT. 12 by the template 'for every input the law returns true; each argument reads behind the call as it read before'; 0 by the template 'total and deterministic' (their statements: YtlfbcmhjopichaaTotals.lean).
  GIVEN WITH THE SEED: the statements are not yours to turn. If you find one false, say at which input.
  Laid BY PROGRAM, IN A SANDBOX (cutbox-rows.mjs): the forced cells as the released guide's own fill.sh prints them over the translation 7ea3494e20fdbacb… (all of the seat's roots in one cut). By AI agents, Wed Nov 11 2026. No macro, syntax, notation, axiom, sorry.
-/
import Derived.Test.YtlfbcmhjopichaaChecked
import GoSem.Claim
import GoSem.ClaimJoined
import GoSem.ClaimMapViews
import Derived.JoinedTies
import Derived.KernelRfl
namespace Go.Proofs.Ytlfbcmhjopichaa
/- THE CELL 'sum', in the pinned program and in every row, IS THE sha256 OF THE DUMP (.gsa) THAT YtlfbcmhjopichaaProg.lean LOADS. Nothing in Lean hashes anything: it is a label: what it is worth is what the hold of that sum in a sandbox is worth. -/
noncomputable def Try.pinned : Pinned := { name := "ytlfbcmhjopichaa", sum := "7ea3494e20fdbacbbcceb569f5a407e2aaf942913835024b479e65cb6a20a1d0", checked := Try.checked }
namespace Rows
def none {H : Type} : Left H := { results := [], args := [] }

/-- 'laws.FnRates': WHATEVER THE INPUT: true; the input reads as it did. -/
def fnRatesSpec : ChangeSpec := { name := "fnRates", fn := fun _ => fun
  | [d] => { results := [.lit (.bool true)], args := [d] }
  | _ => none }
def fnRatesRow : OpenClaim := { program := "ytlfbcmhjopichaa", sum := "7ea3494e20fdbacbbcceb569f5a407e2aaf942913835024b479e65cb6a20a1d0", func := "loop.example/g00960/laws.FnRates", spec := "fnRates", apart := false }
def FnRatesSaid : Prop := fnRatesRow.holds Try.pinned (OpenSpec.ofChange fnRatesSpec)

/-- ITS FALSE NEIGHBOUR: 'it returns false'. Refute it at one input. -/
def fnRatesWrong : ChangeSpec := { name := "fnRates", fn := fun _ => fun
  | [d] => { results := [.lit (.bool false)], args := [d] }
  | _ => none }
def FnRatesWrongFalsely : Prop := fnRatesRow.holds Try.pinned (OpenSpec.ofChange fnRatesWrong)

/-- 'laws.FnExactDecNew': WHATEVER THE INPUT: true; the input reads as it did. -/
def fnExactDecNewSpec : ChangeSpec := { name := "fnExactDecNew", fn := fun _ => fun
  | [] => { results := [.lit (.bool true)], args := [] }
  | _ => none }
def fnExactDecNewRow : OpenClaim := { program := "ytlfbcmhjopichaa", sum := "7ea3494e20fdbacbbcceb569f5a407e2aaf942913835024b479e65cb6a20a1d0", func := "loop.example/g00960/laws.FnExactDecNew", spec := "fnExactDecNew", apart := false }
def FnExactDecNewSaid : Prop := fnExactDecNewRow.holds Try.pinned (OpenSpec.ofChange fnExactDecNewSpec)

/-- ITS FALSE NEIGHBOUR: 'it returns false'. Refute it at one input. -/
def fnExactDecNewWrong : ChangeSpec := { name := "fnExactDecNew", fn := fun _ => fun
  | [] => { results := [.lit (.bool false)], args := [] }
  | _ => none }
def FnExactDecNewWrongFalsely : Prop := fnExactDecNewRow.holds Try.pinned (OpenSpec.ofChange fnExactDecNewWrong)

/-- 'laws.FnExactSkipPart': WHATEVER THE INPUT: true; the input reads as it did. -/
def fnExactSkipPartSpec : ChangeSpec := { name := "fnExactSkipPart", fn := fun _ => fun
  | [d1, d2] => { results := [.lit (.bool true)], args := [d1, d2] }
  | _ => none }
def fnExactSkipPartRow : OpenClaim := { program := "ytlfbcmhjopichaa", sum := "7ea3494e20fdbacbbcceb569f5a407e2aaf942913835024b479e65cb6a20a1d0", func := "loop.example/g00960/laws.FnExactSkipPart", spec := "fnExactSkipPart", apart := false }
def FnExactSkipPartSaid : Prop := fnExactSkipPartRow.holds Try.pinned (OpenSpec.ofChange fnExactSkipPartSpec)

/-- ITS FALSE NEIGHBOUR: 'it returns false'. Refute it at one input. -/
def fnExactSkipPartWrong : ChangeSpec := { name := "fnExactSkipPart", fn := fun _ => fun
  | [d1, d2] => { results := [.lit (.bool false)], args := [d1, d2] }
  | _ => none }
def FnExactSkipPartWrongFalsely : Prop := fnExactSkipPartRow.holds Try.pinned (OpenSpec.ofChange fnExactSkipPartWrong)

/-- 'laws.FnExactPacketsOf': WHATEVER THE INPUT: true; the input reads as it did. -/
def fnExactPacketsOfSpec : ChangeSpec := { name := "fnExactPacketsOf", fn := fun _ => fun
  | [d1, d2, d3] => { results := [.lit (.bool true)], args := [d1, d2, d3] }
  | _ => none }
def fnExactPacketsOfRow : OpenClaim := { program := "ytlfbcmhjopichaa", sum := "7ea3494e20fdbacbbcceb569f5a407e2aaf942913835024b479e65cb6a20a1d0", func := "loop.example/g00960/laws.FnExactPacketsOf", spec := "fnExactPacketsOf", apart := false }
def FnExactPacketsOfSaid : Prop := fnExactPacketsOfRow.holds Try.pinned (OpenSpec.ofChange fnExactPacketsOfSpec)

/-- ITS FALSE NEIGHBOUR: 'it returns false'. Refute it at one input. -/
def fnExactPacketsOfWrong : ChangeSpec := { name := "fnExactPacketsOf", fn := fun _ => fun
  | [d1, d2, d3] => { results := [.lit (.bool false)], args := [d1, d2, d3] }
  | _ => none }
def FnExactPacketsOfWrongFalsely : Prop := fnExactPacketsOfRow.holds Try.pinned (OpenSpec.ofChange fnExactPacketsOfWrong)

/-- 'laws.FnExactGreyPart': WHATEVER THE INPUT: true; the input reads as it did. -/
def fnExactGreyPartSpec : ChangeSpec := { name := "fnExactGreyPart", fn := fun _ => fun
  | [d1, d2] => { results := [.lit (.bool true)], args := [d1, d2] }
  | _ => none }
def fnExactGreyPartRow : OpenClaim := { program := "ytlfbcmhjopichaa", sum := "7ea3494e20fdbacbbcceb569f5a407e2aaf942913835024b479e65cb6a20a1d0", func := "loop.example/g00960/laws.FnExactGreyPart", spec := "fnExactGreyPart", apart := false }
def FnExactGreyPartSaid : Prop := fnExactGreyPartRow.holds Try.pinned (OpenSpec.ofChange fnExactGreyPartSpec)

/-- ITS FALSE NEIGHBOUR: 'it returns false'. Refute it at one input. -/
def fnExactGreyPartWrong : ChangeSpec := { name := "fnExactGreyPart", fn := fun _ => fun
  | [d1, d2] => { results := [.lit (.bool false)], args := [d1, d2] }
  | _ => none }
def FnExactGreyPartWrongFalsely : Prop := fnExactGreyPartRow.holds Try.pinned (OpenSpec.ofChange fnExactGreyPartWrong)

/-- 'laws.FnExactBestMove': WHATEVER THE INPUT: true; the input reads as it did. -/
def fnExactBestMoveSpec : ChangeSpec := { name := "fnExactBestMove", fn := fun _ => fun
  | [d1, d2, d3, d4, d5] => { results := [.lit (.bool true)], args := [d1, d2, d3, d4, d5] }
  | _ => none }
def fnExactBestMoveRow : OpenClaim := { program := "ytlfbcmhjopichaa", sum := "7ea3494e20fdbacbbcceb569f5a407e2aaf942913835024b479e65cb6a20a1d0", func := "loop.example/g00960/laws.FnExactBestMove", spec := "fnExactBestMove", apart := false }
def FnExactBestMoveSaid : Prop := fnExactBestMoveRow.holds Try.pinned (OpenSpec.ofChange fnExactBestMoveSpec)

/-- ITS FALSE NEIGHBOUR: 'it returns false'. Refute it at one input. -/
def fnExactBestMoveWrong : ChangeSpec := { name := "fnExactBestMove", fn := fun _ => fun
  | [d1, d2, d3, d4, d5] => { results := [.lit (.bool false)], args := [d1, d2, d3, d4, d5] }
  | _ => none }
def FnExactBestMoveWrongFalsely : Prop := fnExactBestMoveRow.holds Try.pinned (OpenSpec.ofChange fnExactBestMoveWrong)

/-- 'laws.FnExactDecOk': WHATEVER THE INPUT: true; the input reads as it did. -/
def fnExactDecOkSpec : ChangeSpec := { name := "fnExactDecOk", fn := fun _ => fun
  | [d] => { results := [.lit (.bool true)], args := [d] }
  | _ => none }
def fnExactDecOkRow : OpenClaim := { program := "ytlfbcmhjopichaa", sum := "7ea3494e20fdbacbbcceb569f5a407e2aaf942913835024b479e65cb6a20a1d0", func := "loop.example/g00960/laws.FnExactDecOk", spec := "fnExactDecOk", apart := false }
def FnExactDecOkSaid : Prop := fnExactDecOkRow.holds Try.pinned (OpenSpec.ofChange fnExactDecOkSpec)

/-- ITS FALSE NEIGHBOUR: 'it returns false'. Refute it at one input. -/
def fnExactDecOkWrong : ChangeSpec := { name := "fnExactDecOk", fn := fun _ => fun
  | [d] => { results := [.lit (.bool false)], args := [d] }
  | _ => none }
def FnExactDecOkWrongFalsely : Prop := fnExactDecOkRow.holds Try.pinned (OpenSpec.ofChange fnExactDecOkWrong)

/-- 'laws.FnExactKeyDue': WHATEVER THE INPUT: true; the input reads as it did. -/
def fnExactKeyDueSpec : ChangeSpec := { name := "fnExactKeyDue", fn := fun _ => fun
  | [d1, d2] => { results := [.lit (.bool true)], args := [d1, d2] }
  | _ => none }
def fnExactKeyDueRow : OpenClaim := { program := "ytlfbcmhjopichaa", sum := "7ea3494e20fdbacbbcceb569f5a407e2aaf942913835024b479e65cb6a20a1d0", func := "loop.example/g00960/laws.FnExactKeyDue", spec := "fnExactKeyDue", apart := false }
def FnExactKeyDueSaid : Prop := fnExactKeyDueRow.holds Try.pinned (OpenSpec.ofChange fnExactKeyDueSpec)

/-- ITS FALSE NEIGHBOUR: 'it returns false'. Refute it at one input. -/
def fnExactKeyDueWrong : ChangeSpec := { name := "fnExactKeyDue", fn := fun _ => fun
  | [d1, d2] => { results := [.lit (.bool false)], args := [d1, d2] }
  | _ => none }
def FnExactKeyDueWrongFalsely : Prop := fnExactKeyDueRow.holds Try.pinned (OpenSpec.ofChange fnExactKeyDueWrong)

/-- 'laws.FnExactSourceNew': WHATEVER THE INPUT: true; the input reads as it did. -/
def fnExactSourceNewSpec : ChangeSpec := { name := "fnExactSourceNew", fn := fun _ => fun
  | [d1, d2, d3, d4, d5, d6, d7] => { results := [.lit (.bool true)], args := [d1, d2, d3, d4, d5, d6, d7] }
  | _ => none }
def fnExactSourceNewRow : OpenClaim := { program := "ytlfbcmhjopichaa", sum := "7ea3494e20fdbacbbcceb569f5a407e2aaf942913835024b479e65cb6a20a1d0", func := "loop.example/g00960/laws.FnExactSourceNew", spec := "fnExactSourceNew", apart := false }
def FnExactSourceNewSaid : Prop := fnExactSourceNewRow.holds Try.pinned (OpenSpec.ofChange fnExactSourceNewSpec)

/-- ITS FALSE NEIGHBOUR: 'it returns false'. Refute it at one input. -/
def fnExactSourceNewWrong : ChangeSpec := { name := "fnExactSourceNew", fn := fun _ => fun
  | [d1, d2, d3, d4, d5, d6, d7] => { results := [.lit (.bool false)], args := [d1, d2, d3, d4, d5, d6, d7] }
  | _ => none }
def FnExactSourceNewWrongFalsely : Prop := fnExactSourceNewRow.holds Try.pinned (OpenSpec.ofChange fnExactSourceNewWrong)

/-- 'laws.FnExactPictureOf': WHATEVER THE INPUT: true; the input reads as it did. -/
def fnExactPictureOfSpec : ChangeSpec := { name := "fnExactPictureOf", fn := fun _ => fun
  | [d] => { results := [.lit (.bool true)], args := [d] }
  | _ => none }
def fnExactPictureOfRow : OpenClaim := { program := "ytlfbcmhjopichaa", sum := "7ea3494e20fdbacbbcceb569f5a407e2aaf942913835024b479e65cb6a20a1d0", func := "loop.example/g00960/laws.FnExactPictureOf", spec := "fnExactPictureOf", apart := false }
def FnExactPictureOfSaid : Prop := fnExactPictureOfRow.holds Try.pinned (OpenSpec.ofChange fnExactPictureOfSpec)

/-- ITS FALSE NEIGHBOUR: 'it returns false'. Refute it at one input. -/
def fnExactPictureOfWrong : ChangeSpec := { name := "fnExactPictureOf", fn := fun _ => fun
  | [d] => { results := [.lit (.bool false)], args := [d] }
  | _ => none }
def FnExactPictureOfWrongFalsely : Prop := fnExactPictureOfRow.holds Try.pinned (OpenSpec.ofChange fnExactPictureOfWrong)

/-- 'laws.FnExactPartOk': WHATEVER THE INPUT: true; the input reads as it did. -/
def fnExactPartOkSpec : ChangeSpec := { name := "fnExactPartOk", fn := fun _ => fun
  | [d1, d2, d3] => { results := [.lit (.bool true)], args := [d1, d2, d3] }
  | _ => none }
def fnExactPartOkRow : OpenClaim := { program := "ytlfbcmhjopichaa", sum := "7ea3494e20fdbacbbcceb569f5a407e2aaf942913835024b479e65cb6a20a1d0", func := "loop.example/g00960/laws.FnExactPartOk", spec := "fnExactPartOk", apart := false }
def FnExactPartOkSaid : Prop := fnExactPartOkRow.holds Try.pinned (OpenSpec.ofChange fnExactPartOkSpec)

/-- ITS FALSE NEIGHBOUR: 'it returns false'. Refute it at one input. -/
def fnExactPartOkWrong : ChangeSpec := { name := "fnExactPartOk", fn := fun _ => fun
  | [d1, d2, d3] => { results := [.lit (.bool false)], args := [d1, d2, d3] }
  | _ => none }
def FnExactPartOkWrongFalsely : Prop := fnExactPartOkRow.holds Try.pinned (OpenSpec.ofChange fnExactPartOkWrong)

/-- 'laws.FnExactSourceOk': WHATEVER THE INPUT: true; the input reads as it did. -/
def fnExactSourceOkSpec : ChangeSpec := { name := "fnExactSourceOk", fn := fun _ => fun
  | [d] => { results := [.lit (.bool true)], args := [d] }
  | _ => none }
def fnExactSourceOkRow : OpenClaim := { program := "ytlfbcmhjopichaa", sum := "7ea3494e20fdbacbbcceb569f5a407e2aaf942913835024b479e65cb6a20a1d0", func := "loop.example/g00960/laws.FnExactSourceOk", spec := "fnExactSourceOk", apart := false }
def FnExactSourceOkSaid : Prop := fnExactSourceOkRow.holds Try.pinned (OpenSpec.ofChange fnExactSourceOkSpec)

/-- ITS FALSE NEIGHBOUR: 'it returns false'. Refute it at one input. -/
def fnExactSourceOkWrong : ChangeSpec := { name := "fnExactSourceOk", fn := fun _ => fun
  | [d] => { results := [.lit (.bool false)], args := [d] }
  | _ => none }
def FnExactSourceOkWrongFalsely : Prop := fnExactSourceOkRow.holds Try.pinned (OpenSpec.ofChange fnExactSourceOkWrong)

/- THE SECOND FORM. 'bulk': how many values and letters a reading holds, each counted each time it is reached (what is shared counts as often as it is met; a slice's spare places count too). A statement '..UptoSaid' is the law's where the arguments, and the package variables that the reading takes, are together of bulk at most 1048576: NARROWER than '..Said'. Prove '..Said' where nothing that the law and all that it calls make is longer than what came in: it says more and counts as full. Else prove '..UptoSaid'. A law counts once. -/
mutual
def uptoBulk {H : Type} : DataW H → Nat
  | .lit (.string bytes) => bytes.length + 1
  | .lit _ => 1
  | .nil => 1
  | .ptr d => uptoBulk d + 1
  | .slice elems spare => uptoBulkAll elems + uptoBulkAll spare + 1
  | .agg parts => uptoBulkAll parts + 1
  | .iface _ d => uptoBulk d + 1
  | .map entries => uptoBulkEntries entries + 1
  | .held _ => 1
def uptoBulkAll {H : Type} : List (DataW H) → Nat
  | [] => 0
  | d :: r => uptoBulk d + uptoBulkAll r
def uptoBulkEntries {H : Type} : List (Lit × DataW H) → Nat
  | [] => 0
  | x :: r => uptoBulkEntry x + uptoBulkEntries r
def uptoBulkEntry {H : Type} : Lit × DataW H → Nat
  | (.string bytes, d) => bytes.length + uptoBulk d + 1
  | (_, d) => uptoBulk d + 1
 end
def uptoSmall : (H : Type) → List (DataW H) → Bool := fun _ ds => decide (uptoBulkAll ds ≤ 1048576)
def OpenSpec.upto (s : _root_.Go.ChangeSpec) : _root_.Go.OpenSpec := { _root_.Go.OpenSpec.ofChange s with cond := some uptoSmall }

/-- 'laws.FnRates', WHERE WHAT IT READS IS OF BULK AT MOST 1048576: true; the input reads as it did. -/
def fnRatesUptoRow : OpenClaim := { program := "ytlfbcmhjopichaa", sum := "7ea3494e20fdbacbbcceb569f5a407e2aaf942913835024b479e65cb6a20a1d0", func := "loop.example/g00960/laws.FnRates", spec := "fnRates", apart := false, narrowed := true }
def FnRatesUptoSaid : Prop := fnRatesUptoRow.holds Try.pinned (OpenSpec.upto fnRatesSpec)

/-- 'laws.FnExactDecNew', WHERE WHAT IT READS IS OF BULK AT MOST 1048576: true; the input reads as it did. -/
def fnExactDecNewUptoRow : OpenClaim := { program := "ytlfbcmhjopichaa", sum := "7ea3494e20fdbacbbcceb569f5a407e2aaf942913835024b479e65cb6a20a1d0", func := "loop.example/g00960/laws.FnExactDecNew", spec := "fnExactDecNew", apart := false, narrowed := true }
def FnExactDecNewUptoSaid : Prop := fnExactDecNewUptoRow.holds Try.pinned (OpenSpec.upto fnExactDecNewSpec)

/-- 'laws.FnExactSkipPart', WHERE WHAT IT READS IS OF BULK AT MOST 1048576: true; the input reads as it did. -/
def fnExactSkipPartUptoRow : OpenClaim := { program := "ytlfbcmhjopichaa", sum := "7ea3494e20fdbacbbcceb569f5a407e2aaf942913835024b479e65cb6a20a1d0", func := "loop.example/g00960/laws.FnExactSkipPart", spec := "fnExactSkipPart", apart := false, narrowed := true }
def FnExactSkipPartUptoSaid : Prop := fnExactSkipPartUptoRow.holds Try.pinned (OpenSpec.upto fnExactSkipPartSpec)

/-- 'laws.FnExactPacketsOf', WHERE WHAT IT READS IS OF BULK AT MOST 1048576: true; the input reads as it did. -/
def fnExactPacketsOfUptoRow : OpenClaim := { program := "ytlfbcmhjopichaa", sum := "7ea3494e20fdbacbbcceb569f5a407e2aaf942913835024b479e65cb6a20a1d0", func := "loop.example/g00960/laws.FnExactPacketsOf", spec := "fnExactPacketsOf", apart := false, narrowed := true }
def FnExactPacketsOfUptoSaid : Prop := fnExactPacketsOfUptoRow.holds Try.pinned (OpenSpec.upto fnExactPacketsOfSpec)

/-- 'laws.FnExactGreyPart', WHERE WHAT IT READS IS OF BULK AT MOST 1048576: true; the input reads as it did. -/
def fnExactGreyPartUptoRow : OpenClaim := { program := "ytlfbcmhjopichaa", sum := "7ea3494e20fdbacbbcceb569f5a407e2aaf942913835024b479e65cb6a20a1d0", func := "loop.example/g00960/laws.FnExactGreyPart", spec := "fnExactGreyPart", apart := false, narrowed := true }
def FnExactGreyPartUptoSaid : Prop := fnExactGreyPartUptoRow.holds Try.pinned (OpenSpec.upto fnExactGreyPartSpec)

/-- 'laws.FnExactBestMove', WHERE WHAT IT READS IS OF BULK AT MOST 1048576: true; the input reads as it did. -/
def fnExactBestMoveUptoRow : OpenClaim := { program := "ytlfbcmhjopichaa", sum := "7ea3494e20fdbacbbcceb569f5a407e2aaf942913835024b479e65cb6a20a1d0", func := "loop.example/g00960/laws.FnExactBestMove", spec := "fnExactBestMove", apart := false, narrowed := true }
def FnExactBestMoveUptoSaid : Prop := fnExactBestMoveUptoRow.holds Try.pinned (OpenSpec.upto fnExactBestMoveSpec)

/-- 'laws.FnExactDecOk', WHERE WHAT IT READS IS OF BULK AT MOST 1048576: true; the input reads as it did. -/
def fnExactDecOkUptoRow : OpenClaim := { program := "ytlfbcmhjopichaa", sum := "7ea3494e20fdbacbbcceb569f5a407e2aaf942913835024b479e65cb6a20a1d0", func := "loop.example/g00960/laws.FnExactDecOk", spec := "fnExactDecOk", apart := false, narrowed := true }
def FnExactDecOkUptoSaid : Prop := fnExactDecOkUptoRow.holds Try.pinned (OpenSpec.upto fnExactDecOkSpec)

/-- 'laws.FnExactKeyDue', WHERE WHAT IT READS IS OF BULK AT MOST 1048576: true; the input reads as it did. -/
def fnExactKeyDueUptoRow : OpenClaim := { program := "ytlfbcmhjopichaa", sum := "7ea3494e20fdbacbbcceb569f5a407e2aaf942913835024b479e65cb6a20a1d0", func := "loop.example/g00960/laws.FnExactKeyDue", spec := "fnExactKeyDue", apart := false, narrowed := true }
def FnExactKeyDueUptoSaid : Prop := fnExactKeyDueUptoRow.holds Try.pinned (OpenSpec.upto fnExactKeyDueSpec)

/-- 'laws.FnExactSourceNew', WHERE WHAT IT READS IS OF BULK AT MOST 1048576: true; the input reads as it did. -/
def fnExactSourceNewUptoRow : OpenClaim := { program := "ytlfbcmhjopichaa", sum := "7ea3494e20fdbacbbcceb569f5a407e2aaf942913835024b479e65cb6a20a1d0", func := "loop.example/g00960/laws.FnExactSourceNew", spec := "fnExactSourceNew", apart := false, narrowed := true }
def FnExactSourceNewUptoSaid : Prop := fnExactSourceNewUptoRow.holds Try.pinned (OpenSpec.upto fnExactSourceNewSpec)

/-- 'laws.FnExactPictureOf', WHERE WHAT IT READS IS OF BULK AT MOST 1048576: true; the input reads as it did. -/
def fnExactPictureOfUptoRow : OpenClaim := { program := "ytlfbcmhjopichaa", sum := "7ea3494e20fdbacbbcceb569f5a407e2aaf942913835024b479e65cb6a20a1d0", func := "loop.example/g00960/laws.FnExactPictureOf", spec := "fnExactPictureOf", apart := false, narrowed := true }
def FnExactPictureOfUptoSaid : Prop := fnExactPictureOfUptoRow.holds Try.pinned (OpenSpec.upto fnExactPictureOfSpec)

/-- 'laws.FnExactPartOk', WHERE WHAT IT READS IS OF BULK AT MOST 1048576: true; the input reads as it did. -/
def fnExactPartOkUptoRow : OpenClaim := { program := "ytlfbcmhjopichaa", sum := "7ea3494e20fdbacbbcceb569f5a407e2aaf942913835024b479e65cb6a20a1d0", func := "loop.example/g00960/laws.FnExactPartOk", spec := "fnExactPartOk", apart := false, narrowed := true }
def FnExactPartOkUptoSaid : Prop := fnExactPartOkUptoRow.holds Try.pinned (OpenSpec.upto fnExactPartOkSpec)

/-- 'laws.FnExactSourceOk', WHERE WHAT IT READS IS OF BULK AT MOST 1048576: true; the input reads as it did. -/
def fnExactSourceOkUptoRow : OpenClaim := { program := "ytlfbcmhjopichaa", sum := "7ea3494e20fdbacbbcceb569f5a407e2aaf942913835024b479e65cb6a20a1d0", func := "loop.example/g00960/laws.FnExactSourceOk", spec := "fnExactSourceOk", apart := false, narrowed := true }
def FnExactSourceOkUptoSaid : Prop := fnExactSourceOkUptoRow.holds Try.pinned (OpenSpec.upto fnExactSourceOkSpec)

end Rows
end Go.Proofs.Ytlfbcmhjopichaa
