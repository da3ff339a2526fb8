/-
  No cell of these rows narrows 'for every input' (looked for: loops, veiled, ifaces, maps, wideKeys, modest, calm, conditions, laid).
  DERIVED. THE GIVEN ROWS OF THIS SEAT. 12 by the template 'for every input the law returns true; each argument reads behind the call as it read before'; 0 by the template 'total and deterministic' (their statements: YtgknomboljhhnaaTotals.lean).
  GIVEN WITH THE SEED: the statements are not yours to turn. If you find one false, say at which input.
  Laid BY PROGRAM, IN A SANDBOX (cutbox-rows.mjs): the forced cells as the released guide's own fill.sh prints them over the translation cc2ca21e6509f936… (all of the seat's roots in one cut). By AI agents, Wed Nov 11 2026. No macro, syntax, notation, axiom, sorry.
-/
import Derived.Test.YtgknomboljhhnaaChecked
import GoSem.Claim
import GoSem.ClaimJoined
import GoSem.ClaimMapViews
import Derived.JoinedTies
import Derived.KernelRfl
namespace Go.Proofs.Ytgknomboljhhnaa
/- THE CELL 'sum', in the pinned program and in every row, IS THE sha256 OF THE DUMP (.gsa) THAT YtgknomboljhhnaaProg.lean LOADS. Nothing in Lean hashes anything: it is a label: what it is worth is what the hold of that sum in a sandbox is worth. -/
noncomputable def Try.pinned : Pinned := { name := "ytgknomboljhhnaa", sum := "cc2ca21e6509f936d4eb2a8e79dacb220c63bb151e22c576b8873cd3f5c41969", checked := Try.checked }
namespace Rows
def none {H : Type} : Left H := { results := [], args := [] }

/-- 'laws.FnExactRateOk': WHATEVER THE INPUT: true; the input reads as it did. -/
def fnExactRateOkSpec : ChangeSpec := { name := "fnExactRateOk", fn := fun _ => fun
  | [d] => { results := [.lit (.bool true)], args := [d] }
  | _ => none }
def fnExactRateOkRow : OpenClaim := { program := "ytgknomboljhhnaa", sum := "cc2ca21e6509f936d4eb2a8e79dacb220c63bb151e22c576b8873cd3f5c41969", func := "loop.example/g00960/laws.FnExactRateOk", spec := "fnExactRateOk", apart := false }
def FnExactRateOkSaid : Prop := fnExactRateOkRow.holds Try.pinned (OpenSpec.ofChange fnExactRateOkSpec)

/-- ITS FALSE NEIGHBOUR: 'it returns false'. Refute it at one input. -/
def fnExactRateOkWrong : ChangeSpec := { name := "fnExactRateOk", fn := fun _ => fun
  | [d] => { results := [.lit (.bool false)], args := [d] }
  | _ => none }
def FnExactRateOkWrongFalsely : Prop := fnExactRateOkRow.holds Try.pinned (OpenSpec.ofChange fnExactRateOkWrong)

/-- 'laws.FnExactSeqPlus': WHATEVER THE INPUT: true; the input reads as it did. -/
def fnExactSeqPlusSpec : ChangeSpec := { name := "fnExactSeqPlus", fn := fun _ => fun
  | [d1, d2] => { results := [.lit (.bool true)], args := [d1, d2] }
  | _ => none }
def fnExactSeqPlusRow : OpenClaim := { program := "ytgknomboljhhnaa", sum := "cc2ca21e6509f936d4eb2a8e79dacb220c63bb151e22c576b8873cd3f5c41969", func := "loop.example/g00960/laws.FnExactSeqPlus", spec := "fnExactSeqPlus", apart := false }
def FnExactSeqPlusSaid : Prop := fnExactSeqPlusRow.holds Try.pinned (OpenSpec.ofChange fnExactSeqPlusSpec)

/-- ITS FALSE NEIGHBOUR: 'it returns false'. Refute it at one input. -/
def fnExactSeqPlusWrong : ChangeSpec := { name := "fnExactSeqPlus", fn := fun _ => fun
  | [d1, d2] => { results := [.lit (.bool false)], args := [d1, d2] }
  | _ => none }
def FnExactSeqPlusWrongFalsely : Prop := fnExactSeqPlusRow.holds Try.pinned (OpenSpec.ofChange fnExactSeqPlusWrong)

/-- 'laws.FnExactPacketOk': WHATEVER THE INPUT: true; the input reads as it did. -/
def fnExactPacketOkSpec : ChangeSpec := { name := "fnExactPacketOk", fn := fun _ => fun
  | [d] => { results := [.lit (.bool true)], args := [d] }
  | _ => none }
def fnExactPacketOkRow : OpenClaim := { program := "ytgknomboljhhnaa", sum := "cc2ca21e6509f936d4eb2a8e79dacb220c63bb151e22c576b8873cd3f5c41969", func := "loop.example/g00960/laws.FnExactPacketOk", spec := "fnExactPacketOk", apart := false }
def FnExactPacketOkSaid : Prop := fnExactPacketOkRow.holds Try.pinned (OpenSpec.ofChange fnExactPacketOkSpec)

/-- ITS FALSE NEIGHBOUR: 'it returns false'. Refute it at one input. -/
def fnExactPacketOkWrong : ChangeSpec := { name := "fnExactPacketOk", fn := fun _ => fun
  | [d] => { results := [.lit (.bool false)], args := [d] }
  | _ => none }
def FnExactPacketOkWrongFalsely : Prop := fnExactPacketOkRow.holds Try.pinned (OpenSpec.ofChange fnExactPacketOkWrong)

/-- 'laws.FnExactSeqGap': WHATEVER THE INPUT: true; the input reads as it did. -/
def fnExactSeqGapSpec : ChangeSpec := { name := "fnExactSeqGap", fn := fun _ => fun
  | [d1, d2] => { results := [.lit (.bool true)], args := [d1, d2] }
  | _ => none }
def fnExactSeqGapRow : OpenClaim := { program := "ytgknomboljhhnaa", sum := "cc2ca21e6509f936d4eb2a8e79dacb220c63bb151e22c576b8873cd3f5c41969", func := "loop.example/g00960/laws.FnExactSeqGap", spec := "fnExactSeqGap", apart := false }
def FnExactSeqGapSaid : Prop := fnExactSeqGapRow.holds Try.pinned (OpenSpec.ofChange fnExactSeqGapSpec)

/-- ITS FALSE NEIGHBOUR: 'it returns false'. Refute it at one input. -/
def fnExactSeqGapWrong : ChangeSpec := { name := "fnExactSeqGap", fn := fun _ => fun
  | [d1, d2] => { results := [.lit (.bool false)], args := [d1, d2] }
  | _ => none }
def FnExactSeqGapWrongFalsely : Prop := fnExactSeqGapRow.holds Try.pinned (OpenSpec.ofChange fnExactSeqGapWrong)

/-- 'laws.FnExactReadPacket': WHATEVER THE INPUT: true; the input reads as it did. -/
def fnExactReadPacketSpec : ChangeSpec := { name := "fnExactReadPacket", fn := fun _ => fun
  | [d] => { results := [.lit (.bool true)], args := [d] }
  | _ => none }
def fnExactReadPacketRow : OpenClaim := { program := "ytgknomboljhhnaa", sum := "cc2ca21e6509f936d4eb2a8e79dacb220c63bb151e22c576b8873cd3f5c41969", func := "loop.example/g00960/laws.FnExactReadPacket", spec := "fnExactReadPacket", apart := false }
def FnExactReadPacketSaid : Prop := fnExactReadPacketRow.holds Try.pinned (OpenSpec.ofChange fnExactReadPacketSpec)

/-- ITS FALSE NEIGHBOUR: 'it returns false'. Refute it at one input. -/
def fnExactReadPacketWrong : ChangeSpec := { name := "fnExactReadPacket", fn := fun _ => fun
  | [d] => { results := [.lit (.bool false)], args := [d] }
  | _ => none }
def FnExactReadPacketWrongFalsely : Prop := fnExactReadPacketRow.holds Try.pinned (OpenSpec.ofChange fnExactReadPacketWrong)

/-- 'laws.FnExactQpFor': WHATEVER THE INPUT: true; the input reads as it did. -/
def fnExactQpForSpec : ChangeSpec := { name := "fnExactQpFor", fn := fun _ => fun
  | [d1, d2] => { results := [.lit (.bool true)], args := [d1, d2] }
  | _ => none }
def fnExactQpForRow : OpenClaim := { program := "ytgknomboljhhnaa", sum := "cc2ca21e6509f936d4eb2a8e79dacb220c63bb151e22c576b8873cd3f5c41969", func := "loop.example/g00960/laws.FnExactQpFor", spec := "fnExactQpFor", apart := false }
def FnExactQpForSaid : Prop := fnExactQpForRow.holds Try.pinned (OpenSpec.ofChange fnExactQpForSpec)

/-- ITS FALSE NEIGHBOUR: 'it returns false'. Refute it at one input. -/
def fnExactQpForWrong : ChangeSpec := { name := "fnExactQpFor", fn := fun _ => fun
  | [d1, d2] => { results := [.lit (.bool false)], args := [d1, d2] }
  | _ => none }
def FnExactQpForWrongFalsely : Prop := fnExactQpForRow.holds Try.pinned (OpenSpec.ofChange fnExactQpForWrong)

/-- 'laws.FnExactCondFor': WHATEVER THE INPUT: true; the input reads as it did. -/
def fnExactCondForSpec : ChangeSpec := { name := "fnExactCondFor", fn := fun _ => fun
  | [d1, d2] => { results := [.lit (.bool true)], args := [d1, d2] }
  | _ => none }
def fnExactCondForRow : OpenClaim := { program := "ytgknomboljhhnaa", sum := "cc2ca21e6509f936d4eb2a8e79dacb220c63bb151e22c576b8873cd3f5c41969", func := "loop.example/g00960/laws.FnExactCondFor", spec := "fnExactCondFor", apart := false }
def FnExactCondForSaid : Prop := fnExactCondForRow.holds Try.pinned (OpenSpec.ofChange fnExactCondForSpec)

/-- ITS FALSE NEIGHBOUR: 'it returns false'. Refute it at one input. -/
def fnExactCondForWrong : ChangeSpec := { name := "fnExactCondFor", fn := fun _ => fun
  | [d1, d2] => { results := [.lit (.bool false)], args := [d1, d2] }
  | _ => none }
def FnExactCondForWrongFalsely : Prop := fnExactCondForRow.holds Try.pinned (OpenSpec.ofChange fnExactCondForWrong)

/-- 'laws.FnExactPacketText': WHATEVER THE INPUT: true; the input reads as it did. -/
def fnExactPacketTextSpec : ChangeSpec := { name := "fnExactPacketText", fn := fun _ => fun
  | [d] => { results := [.lit (.bool true)], args := [d] }
  | _ => none }
def fnExactPacketTextRow : OpenClaim := { program := "ytgknomboljhhnaa", sum := "cc2ca21e6509f936d4eb2a8e79dacb220c63bb151e22c576b8873cd3f5c41969", func := "loop.example/g00960/laws.FnExactPacketText", spec := "fnExactPacketText", apart := false }
def FnExactPacketTextSaid : Prop := fnExactPacketTextRow.holds Try.pinned (OpenSpec.ofChange fnExactPacketTextSpec)

/-- ITS FALSE NEIGHBOUR: 'it returns false'. Refute it at one input. -/
def fnExactPacketTextWrong : ChangeSpec := { name := "fnExactPacketText", fn := fun _ => fun
  | [d] => { results := [.lit (.bool false)], args := [d] }
  | _ => none }
def FnExactPacketTextWrongFalsely : Prop := fnExactPacketTextRow.holds Try.pinned (OpenSpec.ofChange fnExactPacketTextWrong)

/-- 'laws.FnRound': WHATEVER THE INPUT: true; the input reads as it did. -/
def fnRoundSpec : ChangeSpec := { name := "fnRound", fn := fun _ => fun
  | [d] => { results := [.lit (.bool true)], args := [d] }
  | _ => none }
def fnRoundRow : OpenClaim := { program := "ytgknomboljhhnaa", sum := "cc2ca21e6509f936d4eb2a8e79dacb220c63bb151e22c576b8873cd3f5c41969", func := "loop.example/g00960/laws.FnRound", spec := "fnRound", apart := false }
def FnRoundSaid : Prop := fnRoundRow.holds Try.pinned (OpenSpec.ofChange fnRoundSpec)

/-- ITS FALSE NEIGHBOUR: 'it returns false'. Refute it at one input. -/
def fnRoundWrong : ChangeSpec := { name := "fnRound", fn := fun _ => fun
  | [d] => { results := [.lit (.bool false)], args := [d] }
  | _ => none }
def FnRoundWrongFalsely : Prop := fnRoundRow.holds Try.pinned (OpenSpec.ofChange fnRoundWrong)

/-- 'laws.FnExactRateNext': WHATEVER THE INPUT: true; the input reads as it did. -/
def fnExactRateNextSpec : ChangeSpec := { name := "fnExactRateNext", fn := fun _ => fun
  | [d1, d2] => { results := [.lit (.bool true)], args := [d1, d2] }
  | _ => none }
def fnExactRateNextRow : OpenClaim := { program := "ytgknomboljhhnaa", sum := "cc2ca21e6509f936d4eb2a8e79dacb220c63bb151e22c576b8873cd3f5c41969", func := "loop.example/g00960/laws.FnExactRateNext", spec := "fnExactRateNext", apart := false }
def FnExactRateNextSaid : Prop := fnExactRateNextRow.holds Try.pinned (OpenSpec.ofChange fnExactRateNextSpec)

/-- ITS FALSE NEIGHBOUR: 'it returns false'. Refute it at one input. -/
def fnExactRateNextWrong : ChangeSpec := { name := "fnExactRateNext", fn := fun _ => fun
  | [d1, d2] => { results := [.lit (.bool false)], args := [d1, d2] }
  | _ => none }
def FnExactRateNextWrongFalsely : Prop := fnExactRateNextRow.holds Try.pinned (OpenSpec.ofChange fnExactRateNextWrong)

/-- 'laws.FnRates': WHATEVER THE INPUT: true; the input reads as it did. -/
def fnRatesSpec : ChangeSpec := { name := "fnRates", fn := fun _ => fun
  | [d] => { results := [.lit (.bool true)], args := [d] }
  | _ => none }
def fnRatesRow : OpenClaim := { program := "ytgknomboljhhnaa", sum := "cc2ca21e6509f936d4eb2a8e79dacb220c63bb151e22c576b8873cd3f5c41969", func := "loop.example/g00960/laws.FnRates", spec := "fnRates", apart := false }
def FnRatesSaid : Prop := fnRatesRow.holds Try.pinned (OpenSpec.ofChange fnRatesSpec)

/-- ITS FALSE NEIGHBOUR: 'it returns false'. Refute it at one input. -/
def fnRatesWrong : ChangeSpec := { name := "fnRates", fn := fun _ => fun
  | [d] => { results := [.lit (.bool false)], args := [d] }
  | _ => none }
def FnRatesWrongFalsely : Prop := fnRatesRow.holds Try.pinned (OpenSpec.ofChange fnRatesWrong)

/-- 'laws.FnExactRateRun': WHATEVER THE INPUT: true; the input reads as it did. -/
def fnExactRateRunSpec : ChangeSpec := { name := "fnExactRateRun", fn := fun _ => fun
  | [d1, d2] => { results := [.lit (.bool true)], args := [d1, d2] }
  | _ => none }
def fnExactRateRunRow : OpenClaim := { program := "ytgknomboljhhnaa", sum := "cc2ca21e6509f936d4eb2a8e79dacb220c63bb151e22c576b8873cd3f5c41969", func := "loop.example/g00960/laws.FnExactRateRun", spec := "fnExactRateRun", apart := false }
def FnExactRateRunSaid : Prop := fnExactRateRunRow.holds Try.pinned (OpenSpec.ofChange fnExactRateRunSpec)

/-- ITS FALSE NEIGHBOUR: 'it returns false'. Refute it at one input. -/
def fnExactRateRunWrong : ChangeSpec := { name := "fnExactRateRun", fn := fun _ => fun
  | [d1, d2] => { results := [.lit (.bool false)], args := [d1, d2] }
  | _ => none }
def FnExactRateRunWrongFalsely : Prop := fnExactRateRunRow.holds Try.pinned (OpenSpec.ofChange fnExactRateRunWrong)

/- THE SECOND FORM. 'bulk': how many values and letters a reading holds, each counted each time it is reached (what is shared counts as often as it is met; a slice's spare places count too). A statement '..UptoSaid' is the law's where the arguments, and the package variables that the reading takes, are together of bulk at most 1048576: NARROWER than '..Said'. Prove '..Said' where nothing that the law and all that it calls make is longer than what came in: it says more and counts as full. Else prove '..UptoSaid'. A law counts once. -/
mutual
def uptoBulk {H : Type} : DataW H → Nat
  | .lit (.string bytes) => bytes.length + 1
  | .lit _ => 1
  | .nil => 1
  | .ptr d => uptoBulk d + 1
  | .slice elems spare => uptoBulkAll elems + uptoBulkAll spare + 1
  | .agg parts => uptoBulkAll parts + 1
  | .iface _ d => uptoBulk d + 1
  | .map entries => uptoBulkEntries entries + 1
  | .held _ => 1
def uptoBulkAll {H : Type} : List (DataW H) → Nat
  | [] => 0
  | d :: r => uptoBulk d + uptoBulkAll r
def uptoBulkEntries {H : Type} : List (Lit × DataW H) → Nat
  | [] => 0
  | x :: r => uptoBulkEntry x + uptoBulkEntries r
def uptoBulkEntry {H : Type} : Lit × DataW H → Nat
  | (.string bytes, d) => bytes.length + uptoBulk d + 1
  | (_, d) => uptoBulk d + 1
 end
def uptoSmall : (H : Type) → List (DataW H) → Bool := fun _ ds => decide (uptoBulkAll ds ≤ 1048576)
def OpenSpec.upto (s : _root_.Go.ChangeSpec) : _root_.Go.OpenSpec := { _root_.Go.OpenSpec.ofChange s with cond := some uptoSmall }

/-- 'laws.FnExactRateOk', WHERE WHAT IT READS IS OF BULK AT MOST 1048576: true; the input reads as it did. -/
def fnExactRateOkUptoRow : OpenClaim := { program := "ytgknomboljhhnaa", sum := "cc2ca21e6509f936d4eb2a8e79dacb220c63bb151e22c576b8873cd3f5c41969", func := "loop.example/g00960/laws.FnExactRateOk", spec := "fnExactRateOk", apart := false, narrowed := true }
def FnExactRateOkUptoSaid : Prop := fnExactRateOkUptoRow.holds Try.pinned (OpenSpec.upto fnExactRateOkSpec)

/-- 'laws.FnExactSeqPlus', WHERE WHAT IT READS IS OF BULK AT MOST 1048576: true; the input reads as it did. -/
def fnExactSeqPlusUptoRow : OpenClaim := { program := "ytgknomboljhhnaa", sum := "cc2ca21e6509f936d4eb2a8e79dacb220c63bb151e22c576b8873cd3f5c41969", func := "loop.example/g00960/laws.FnExactSeqPlus", spec := "fnExactSeqPlus", apart := false, narrowed := true }
def FnExactSeqPlusUptoSaid : Prop := fnExactSeqPlusUptoRow.holds Try.pinned (OpenSpec.upto fnExactSeqPlusSpec)

/-- 'laws.FnExactPacketOk', WHERE WHAT IT READS IS OF BULK AT MOST 1048576: true; the input reads as it did. -/
def fnExactPacketOkUptoRow : OpenClaim := { program := "ytgknomboljhhnaa", sum := "cc2ca21e6509f936d4eb2a8e79dacb220c63bb151e22c576b8873cd3f5c41969", func := "loop.example/g00960/laws.FnExactPacketOk", spec := "fnExactPacketOk", apart := false, narrowed := true }
def FnExactPacketOkUptoSaid : Prop := fnExactPacketOkUptoRow.holds Try.pinned (OpenSpec.upto fnExactPacketOkSpec)

/-- 'laws.FnExactSeqGap', WHERE WHAT IT READS IS OF BULK AT MOST 1048576: true; the input reads as it did. -/
def fnExactSeqGapUptoRow : OpenClaim := { program := "ytgknomboljhhnaa", sum := "cc2ca21e6509f936d4eb2a8e79dacb220c63bb151e22c576b8873cd3f5c41969", func := "loop.example/g00960/laws.FnExactSeqGap", spec := "fnExactSeqGap", apart := false, narrowed := true }
def FnExactSeqGapUptoSaid : Prop := fnExactSeqGapUptoRow.holds Try.pinned (OpenSpec.upto fnExactSeqGapSpec)

/-- 'laws.FnExactReadPacket', WHERE WHAT IT READS IS OF BULK AT MOST 1048576: true; the input reads as it did. -/
def fnExactReadPacketUptoRow : OpenClaim := { program := "ytgknomboljhhnaa", sum := "cc2ca21e6509f936d4eb2a8e79dacb220c63bb151e22c576b8873cd3f5c41969", func := "loop.example/g00960/laws.FnExactReadPacket", spec := "fnExactReadPacket", apart := false, narrowed := true }
def FnExactReadPacketUptoSaid : Prop := fnExactReadPacketUptoRow.holds Try.pinned (OpenSpec.upto fnExactReadPacketSpec)

/-- 'laws.FnExactQpFor', WHERE WHAT IT READS IS OF BULK AT MOST 1048576: true; the input reads as it did. -/
def fnExactQpForUptoRow : OpenClaim := { program := "ytgknomboljhhnaa", sum := "cc2ca21e6509f936d4eb2a8e79dacb220c63bb151e22c576b8873cd3f5c41969", func := "loop.example/g00960/laws.FnExactQpFor", spec := "fnExactQpFor", apart := false, narrowed := true }
def FnExactQpForUptoSaid : Prop := fnExactQpForUptoRow.holds Try.pinned (OpenSpec.upto fnExactQpForSpec)

/-- 'laws.FnExactCondFor', WHERE WHAT IT READS IS OF BULK AT MOST 1048576: true; the input reads as it did. -/
def fnExactCondForUptoRow : OpenClaim := { program := "ytgknomboljhhnaa", sum := "cc2ca21e6509f936d4eb2a8e79dacb220c63bb151e22c576b8873cd3f5c41969", func := "loop.example/g00960/laws.FnExactCondFor", spec := "fnExactCondFor", apart := false, narrowed := true }
def FnExactCondForUptoSaid : Prop := fnExactCondForUptoRow.holds Try.pinned (OpenSpec.upto fnExactCondForSpec)

/-- 'laws.FnExactPacketText', WHERE WHAT IT READS IS OF BULK AT MOST 1048576: true; the input reads as it did. -/
def fnExactPacketTextUptoRow : OpenClaim := { program := "ytgknomboljhhnaa", sum := "cc2ca21e6509f936d4eb2a8e79dacb220c63bb151e22c576b8873cd3f5c41969", func := "loop.example/g00960/laws.FnExactPacketText", spec := "fnExactPacketText", apart := false, narrowed := true }
def FnExactPacketTextUptoSaid : Prop := fnExactPacketTextUptoRow.holds Try.pinned (OpenSpec.upto fnExactPacketTextSpec)

/-- 'laws.FnRound', WHERE WHAT IT READS IS OF BULK AT MOST 1048576: true; the input reads as it did. -/
def fnRoundUptoRow : OpenClaim := { program := "ytgknomboljhhnaa", sum := "cc2ca21e6509f936d4eb2a8e79dacb220c63bb151e22c576b8873cd3f5c41969", func := "loop.example/g00960/laws.FnRound", spec := "fnRound", apart := false, narrowed := true }
def FnRoundUptoSaid : Prop := fnRoundUptoRow.holds Try.pinned (OpenSpec.upto fnRoundSpec)

/-- 'laws.FnExactRateNext', WHERE WHAT IT READS IS OF BULK AT MOST 1048576: true; the input reads as it did. -/
def fnExactRateNextUptoRow : OpenClaim := { program := "ytgknomboljhhnaa", sum := "cc2ca21e6509f936d4eb2a8e79dacb220c63bb151e22c576b8873cd3f5c41969", func := "loop.example/g00960/laws.FnExactRateNext", spec := "fnExactRateNext", apart := false, narrowed := true }
def FnExactRateNextUptoSaid : Prop := fnExactRateNextUptoRow.holds Try.pinned (OpenSpec.upto fnExactRateNextSpec)

/-- 'laws.FnRates', WHERE WHAT IT READS IS OF BULK AT MOST 1048576: true; the input reads as it did. -/
def fnRatesUptoRow : OpenClaim := { program := "ytgknomboljhhnaa", sum := "cc2ca21e6509f936d4eb2a8e79dacb220c63bb151e22c576b8873cd3f5c41969", func := "loop.example/g00960/laws.FnRates", spec := "fnRates", apart := false, narrowed := true }
def FnRatesUptoSaid : Prop := fnRatesUptoRow.holds Try.pinned (OpenSpec.upto fnRatesSpec)

/-- 'laws.FnExactRateRun', WHERE WHAT IT READS IS OF BULK AT MOST 1048576: true; the input reads as it did. -/
def fnExactRateRunUptoRow : OpenClaim := { program := "ytgknomboljhhnaa", sum := "cc2ca21e6509f936d4eb2a8e79dacb220c63bb151e22c576b8873cd3f5c41969", func := "loop.example/g00960/laws.FnExactRateRun", spec := "fnExactRateRun", apart := false, narrowed := true }
def FnExactRateRunUptoSaid : Prop := fnExactRateRunUptoRow.holds Try.pinned (OpenSpec.upto fnExactRateRunSpec)

end Rows
end Go.Proofs.Ytgknomboljhhnaa
