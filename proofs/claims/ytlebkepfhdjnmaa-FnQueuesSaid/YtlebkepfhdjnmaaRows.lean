/-
  No cell of these rows narrows 'for every input' (looked for: loops, veiled, ifaces, maps, wideKeys, modest, calm, conditions, laid).
  DERIVED. THE GIVEN ROWS OF THIS SEAT. 5 by the template 'for every input the law returns true; each argument reads behind the call as it read before'; 0 by the template 'total and deterministic' (their statements: YtlebkepfhdjnmaaTotals.lean).
  GIVEN WITH THE SEED: the statements are not yours to turn. If you find one false, say at which input.
  Laid BY PROGRAM, IN A SANDBOX (cutbox-rows.mjs): the forced cells as the released guide's own fill.sh prints them over the translation 2a8e188bc4d18254… (all of the seat's roots in one cut). By AI agents, Wed Nov 11 2026. No macro, syntax, notation, axiom, sorry.
-/
import Derived.Test.YtlebkepfhdjnmaaChecked
import GoSem.Claim
import GoSem.ClaimJoined
import GoSem.ClaimMapViews
import Derived.JoinedTies
import Derived.KernelRfl
namespace Go.Proofs.Ytlebkepfhdjnmaa
/- THE CELL 'sum', in the pinned program and in every row, IS THE sha256 OF THE DUMP (.gsa) THAT YtlebkepfhdjnmaaProg.lean LOADS. Nothing in Lean hashes anything: it is a label: what it is worth is what the hold of that sum in a sandbox is worth. -/
noncomputable def Try.pinned : Pinned := { name := "ytlebkepfhdjnmaa", sum := "2a8e188bc4d182544083b8c8aca9c6d8a09dd9df39845181b658e4978dbb3bd2", checked := Try.checked }
namespace Rows
def none {H : Type} : Left H := { results := [], args := [] }

/-- 'laws.FnRates': WHATEVER THE INPUT: true; the input reads as it did. -/
def fnRatesSpec : ChangeSpec := { name := "fnRates", fn := fun _ => fun
  | [d] => { results := [.lit (.bool true)], args := [d] }
  | _ => none }
def fnRatesRow : OpenClaim := { program := "ytlebkepfhdjnmaa", sum := "2a8e188bc4d182544083b8c8aca9c6d8a09dd9df39845181b658e4978dbb3bd2", func := "loop.example/g00960/laws.FnRates", spec := "fnRates", apart := false }
def FnRatesSaid : Prop := fnRatesRow.holds Try.pinned (OpenSpec.ofChange fnRatesSpec)

/-- ITS FALSE NEIGHBOUR: 'it returns false'. Refute it at one input. -/
def fnRatesWrong : ChangeSpec := { name := "fnRates", fn := fun _ => fun
  | [d] => { results := [.lit (.bool false)], args := [d] }
  | _ => none }
def FnRatesWrongFalsely : Prop := fnRatesRow.holds Try.pinned (OpenSpec.ofChange fnRatesWrong)

/-- 'laws.FnExactQueueTick': WHATEVER THE INPUT: true; the input reads as it did. -/
def fnExactQueueTickSpec : ChangeSpec := { name := "fnExactQueueTick", fn := fun _ => fun
  | [d1, d2] => { results := [.lit (.bool true)], args := [d1, d2] }
  | _ => none }
def fnExactQueueTickRow : OpenClaim := { program := "ytlebkepfhdjnmaa", sum := "2a8e188bc4d182544083b8c8aca9c6d8a09dd9df39845181b658e4978dbb3bd2", func := "loop.example/g00960/laws.FnExactQueueTick", spec := "fnExactQueueTick", apart := false }
def FnExactQueueTickSaid : Prop := fnExactQueueTickRow.holds Try.pinned (OpenSpec.ofChange fnExactQueueTickSpec)

/-- ITS FALSE NEIGHBOUR: 'it returns false'. Refute it at one input. -/
def fnExactQueueTickWrong : ChangeSpec := { name := "fnExactQueueTick", fn := fun _ => fun
  | [d1, d2] => { results := [.lit (.bool false)], args := [d1, d2] }
  | _ => none }
def FnExactQueueTickWrongFalsely : Prop := fnExactQueueTickRow.holds Try.pinned (OpenSpec.ofChange fnExactQueueTickWrong)

/-- 'laws.FnGivenUp': WHATEVER THE INPUT: true; the input reads as it did. -/
def fnGivenUpSpec : ChangeSpec := { name := "fnGivenUp", fn := fun _ => fun
  | [d] => { results := [.lit (.bool true)], args := [d] }
  | _ => none }
def fnGivenUpRow : OpenClaim := { program := "ytlebkepfhdjnmaa", sum := "2a8e188bc4d182544083b8c8aca9c6d8a09dd9df39845181b658e4978dbb3bd2", func := "loop.example/g00960/laws.FnGivenUp", spec := "fnGivenUp", apart := false }
def FnGivenUpSaid : Prop := fnGivenUpRow.holds Try.pinned (OpenSpec.ofChange fnGivenUpSpec)

/-- ITS FALSE NEIGHBOUR: 'it returns false'. Refute it at one input. -/
def fnGivenUpWrong : ChangeSpec := { name := "fnGivenUp", fn := fun _ => fun
  | [d] => { results := [.lit (.bool false)], args := [d] }
  | _ => none }
def FnGivenUpWrongFalsely : Prop := fnGivenUpRow.holds Try.pinned (OpenSpec.ofChange fnGivenUpWrong)

/-- 'laws.FnExactQueueIn': WHATEVER THE INPUT: true; the input reads as it did. -/
def fnExactQueueInSpec : ChangeSpec := { name := "fnExactQueueIn", fn := fun _ => fun
  | [d1, d2] => { results := [.lit (.bool true)], args := [d1, d2] }
  | _ => none }
def fnExactQueueInRow : OpenClaim := { program := "ytlebkepfhdjnmaa", sum := "2a8e188bc4d182544083b8c8aca9c6d8a09dd9df39845181b658e4978dbb3bd2", func := "loop.example/g00960/laws.FnExactQueueIn", spec := "fnExactQueueIn", apart := false }
def FnExactQueueInSaid : Prop := fnExactQueueInRow.holds Try.pinned (OpenSpec.ofChange fnExactQueueInSpec)

/-- ITS FALSE NEIGHBOUR: 'it returns false'. Refute it at one input. -/
def fnExactQueueInWrong : ChangeSpec := { name := "fnExactQueueIn", fn := fun _ => fun
  | [d1, d2] => { results := [.lit (.bool false)], args := [d1, d2] }
  | _ => none }
def FnExactQueueInWrongFalsely : Prop := fnExactQueueInRow.holds Try.pinned (OpenSpec.ofChange fnExactQueueInWrong)

/-- 'laws.FnQueues': WHATEVER THE INPUT: true; the input reads as it did. -/
def fnQueuesSpec : ChangeSpec := { name := "fnQueues", fn := fun _ => fun
  | [d] => { results := [.lit (.bool true)], args := [d] }
  | _ => none }
def fnQueuesRow : OpenClaim := { program := "ytlebkepfhdjnmaa", sum := "2a8e188bc4d182544083b8c8aca9c6d8a09dd9df39845181b658e4978dbb3bd2", func := "loop.example/g00960/laws.FnQueues", spec := "fnQueues", apart := false }
def FnQueuesSaid : Prop := fnQueuesRow.holds Try.pinned (OpenSpec.ofChange fnQueuesSpec)

/-- ITS FALSE NEIGHBOUR: 'it returns false'. Refute it at one input. -/
def fnQueuesWrong : ChangeSpec := { name := "fnQueues", fn := fun _ => fun
  | [d] => { results := [.lit (.bool false)], args := [d] }
  | _ => none }
def FnQueuesWrongFalsely : Prop := fnQueuesRow.holds Try.pinned (OpenSpec.ofChange fnQueuesWrong)

/- THE SECOND FORM. 'bulk': how many values and letters a reading holds, each counted each time it is reached (what is shared counts as often as it is met; a slice's spare places count too). A statement '..UptoSaid' is the law's where the arguments, and the package variables that the reading takes, are together of bulk at most 1048576: NARROWER than '..Said'. Prove '..Said' where nothing that the law and all that it calls make is longer than what came in: it says more and counts as full. Else prove '..UptoSaid'. A law counts once. -/
mutual
def uptoBulk {H : Type} : DataW H → Nat
  | .lit (.string bytes) => bytes.length + 1
  | .lit _ => 1
  | .nil => 1
  | .ptr d => uptoBulk d + 1
  | .slice elems spare => uptoBulkAll elems + uptoBulkAll spare + 1
  | .agg parts => uptoBulkAll parts + 1
  | .iface _ d => uptoBulk d + 1
  | .map entries => uptoBulkEntries entries + 1
  | .held _ => 1
def uptoBulkAll {H : Type} : List (DataW H) → Nat
  | [] => 0
  | d :: r => uptoBulk d + uptoBulkAll r
def uptoBulkEntries {H : Type} : List (Lit × DataW H) → Nat
  | [] => 0
  | x :: r => uptoBulkEntry x + uptoBulkEntries r
def uptoBulkEntry {H : Type} : Lit × DataW H → Nat
  | (.string bytes, d) => bytes.length + uptoBulk d + 1
  | (_, d) => uptoBulk d + 1
 end
def uptoSmall : (H : Type) → List (DataW H) → Bool := fun _ ds => decide (uptoBulkAll ds ≤ 1048576)
def OpenSpec.upto (s : _root_.Go.ChangeSpec) : _root_.Go.OpenSpec := { _root_.Go.OpenSpec.ofChange s with cond := some uptoSmall }

/-- 'laws.FnRates', WHERE WHAT IT READS IS OF BULK AT MOST 1048576: true; the input reads as it did. -/
def fnRatesUptoRow : OpenClaim := { program := "ytlebkepfhdjnmaa", sum := "2a8e188bc4d182544083b8c8aca9c6d8a09dd9df39845181b658e4978dbb3bd2", func := "loop.example/g00960/laws.FnRates", spec := "fnRates", apart := false, narrowed := true }
def FnRatesUptoSaid : Prop := fnRatesUptoRow.holds Try.pinned (OpenSpec.upto fnRatesSpec)

/-- 'laws.FnExactQueueTick', WHERE WHAT IT READS IS OF BULK AT MOST 1048576: true; the input reads as it did. -/
def fnExactQueueTickUptoRow : OpenClaim := { program := "ytlebkepfhdjnmaa", sum := "2a8e188bc4d182544083b8c8aca9c6d8a09dd9df39845181b658e4978dbb3bd2", func := "loop.example/g00960/laws.FnExactQueueTick", spec := "fnExactQueueTick", apart := false, narrowed := true }
def FnExactQueueTickUptoSaid : Prop := fnExactQueueTickUptoRow.holds Try.pinned (OpenSpec.upto fnExactQueueTickSpec)

/-- 'laws.FnGivenUp', WHERE WHAT IT READS IS OF BULK AT MOST 1048576: true; the input reads as it did. -/
def fnGivenUpUptoRow : OpenClaim := { program := "ytlebkepfhdjnmaa", sum := "2a8e188bc4d182544083b8c8aca9c6d8a09dd9df39845181b658e4978dbb3bd2", func := "loop.example/g00960/laws.FnGivenUp", spec := "fnGivenUp", apart := false, narrowed := true }
def FnGivenUpUptoSaid : Prop := fnGivenUpUptoRow.holds Try.pinned (OpenSpec.upto fnGivenUpSpec)

/-- 'laws.FnExactQueueIn', WHERE WHAT IT READS IS OF BULK AT MOST 1048576: true; the input reads as it did. -/
def fnExactQueueInUptoRow : OpenClaim := { program := "ytlebkepfhdjnmaa", sum := "2a8e188bc4d182544083b8c8aca9c6d8a09dd9df39845181b658e4978dbb3bd2", func := "loop.example/g00960/laws.FnExactQueueIn", spec := "fnExactQueueIn", apart := false, narrowed := true }
def FnExactQueueInUptoSaid : Prop := fnExactQueueInUptoRow.holds Try.pinned (OpenSpec.upto fnExactQueueInSpec)

/-- 'laws.FnQueues', WHERE WHAT IT READS IS OF BULK AT MOST 1048576: true; the input reads as it did. -/
def fnQueuesUptoRow : OpenClaim := { program := "ytlebkepfhdjnmaa", sum := "2a8e188bc4d182544083b8c8aca9c6d8a09dd9df39845181b658e4978dbb3bd2", func := "loop.example/g00960/laws.FnQueues", spec := "fnQueues", apart := false, narrowed := true }
def FnQueuesUptoSaid : Prop := fnQueuesUptoRow.holds Try.pinned (OpenSpec.upto fnQueuesSpec)

end Rows
end Go.Proofs.Ytlebkepfhdjnmaa
