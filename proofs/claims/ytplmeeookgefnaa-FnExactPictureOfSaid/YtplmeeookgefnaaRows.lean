/-
  No cell of these rows narrows 'for every input' (looked for: loops, veiled, ifaces, maps, wideKeys, modest, calm, conditions, laid).
  DERIVED. THE GIVEN ROWS OF THIS SEAT. 15 by the template 'for every input the law returns true; each argument reads behind the call as it read before'; 0 by the template 'total and deterministic' (their statements: YtplmeeookgefnaaTotals.lean).
  GIVEN WITH THE SEED: the statements are not yours to turn. If you find one false, say at which input.
  Laid BY PROGRAM, IN A SANDBOX (cutbox-rows.mjs): the forced cells as the released guide's own fill.sh prints them over the translation 2fd8387422ab72d8… (all of the seat's roots in one cut). By AI agents, Wed Nov 11 2026. No macro, syntax, notation, axiom, sorry.
-/
import Derived.Test.YtplmeeookgefnaaChecked
import GoSem.Claim
import GoSem.ClaimJoined
import GoSem.ClaimMapViews
import Derived.JoinedTies
import Derived.KernelRfl
namespace Go.Proofs.Ytplmeeookgefnaa
/- THE CELL 'sum', in the pinned program and in every row, IS THE sha256 OF THE DUMP (.gsa) THAT YtplmeeookgefnaaProg.lean LOADS. Nothing in Lean hashes anything: it is a label: what it is worth is what the hold of that sum in a sandbox is worth. -/
noncomputable def Try.pinned : Pinned := { name := "ytplmeeookgefnaa", sum := "2fd8387422ab72d8f570e825d0c51e3f63bee3f6d69cfd0c5ec73ebcbce4ef1d", checked := Try.checked }
namespace Rows
def none {H : Type} : Left H := { results := [], args := [] }

/-- 'laws.FnRates': WHATEVER THE INPUT: true; the input reads as it did. -/
def fnRatesSpec : ChangeSpec := { name := "fnRates", fn := fun _ => fun
  | [d] => { results := [.lit (.bool true)], args := [d] }
  | _ => none }
def fnRatesRow : OpenClaim := { program := "ytplmeeookgefnaa", sum := "2fd8387422ab72d8f570e825d0c51e3f63bee3f6d69cfd0c5ec73ebcbce4ef1d", func := "loop.example/g00960/laws.FnRates", spec := "fnRates", apart := false }
def FnRatesSaid : Prop := fnRatesRow.holds Try.pinned (OpenSpec.ofChange fnRatesSpec)

/-- ITS FALSE NEIGHBOUR: 'it returns false'. Refute it at one input. -/
def fnRatesWrong : ChangeSpec := { name := "fnRates", fn := fun _ => fun
  | [d] => { results := [.lit (.bool false)], args := [d] }
  | _ => none }
def FnRatesWrongFalsely : Prop := fnRatesRow.holds Try.pinned (OpenSpec.ofChange fnRatesWrong)

/-- 'laws.FnBestMove': WHATEVER THE INPUT: true; the input reads as it did. -/
def fnBestMoveSpec : ChangeSpec := { name := "fnBestMove", fn := fun _ => fun
  | [d] => { results := [.lit (.bool true)], args := [d] }
  | _ => none }
def fnBestMoveRow : OpenClaim := { program := "ytplmeeookgefnaa", sum := "2fd8387422ab72d8f570e825d0c51e3f63bee3f6d69cfd0c5ec73ebcbce4ef1d", func := "loop.example/g00960/laws.FnBestMove", spec := "fnBestMove", apart := false }
def FnBestMoveSaid : Prop := fnBestMoveRow.holds Try.pinned (OpenSpec.ofChange fnBestMoveSpec)

/-- ITS FALSE NEIGHBOUR: 'it returns false'. Refute it at one input. -/
def fnBestMoveWrong : ChangeSpec := { name := "fnBestMove", fn := fun _ => fun
  | [d] => { results := [.lit (.bool false)], args := [d] }
  | _ => none }
def FnBestMoveWrongFalsely : Prop := fnBestMoveRow.holds Try.pinned (OpenSpec.ofChange fnBestMoveWrong)

/-- 'laws.FnExactSourceNew': WHATEVER THE INPUT: true; the input reads as it did. -/
def fnExactSourceNewSpec : ChangeSpec := { name := "fnExactSourceNew", fn := fun _ => fun
  | [d1, d2, d3, d4, d5, d6, d7] => { results := [.lit (.bool true)], args := [d1, d2, d3, d4, d5, d6, d7] }
  | _ => none }
def fnExactSourceNewRow : OpenClaim := { program := "ytplmeeookgefnaa", sum := "2fd8387422ab72d8f570e825d0c51e3f63bee3f6d69cfd0c5ec73ebcbce4ef1d", func := "loop.example/g00960/laws.FnExactSourceNew", spec := "fnExactSourceNew", apart := false }
def FnExactSourceNewSaid : Prop := fnExactSourceNewRow.holds Try.pinned (OpenSpec.ofChange fnExactSourceNewSpec)

/-- ITS FALSE NEIGHBOUR: 'it returns false'. Refute it at one input. -/
def fnExactSourceNewWrong : ChangeSpec := { name := "fnExactSourceNew", fn := fun _ => fun
  | [d1, d2, d3, d4, d5, d6, d7] => { results := [.lit (.bool false)], args := [d1, d2, d3, d4, d5, d6, d7] }
  | _ => none }
def FnExactSourceNewWrongFalsely : Prop := fnExactSourceNewRow.holds Try.pinned (OpenSpec.ofChange fnExactSourceNewWrong)

/-- 'laws.FnExactPictureOf': WHATEVER THE INPUT: true; the input reads as it did. -/
def fnExactPictureOfSpec : ChangeSpec := { name := "fnExactPictureOf", fn := fun _ => fun
  | [d] => { results := [.lit (.bool true)], args := [d] }
  | _ => none }
def fnExactPictureOfRow : OpenClaim := { program := "ytplmeeookgefnaa", sum := "2fd8387422ab72d8f570e825d0c51e3f63bee3f6d69cfd0c5ec73ebcbce4ef1d", func := "loop.example/g00960/laws.FnExactPictureOf", spec := "fnExactPictureOf", apart := false }
def FnExactPictureOfSaid : Prop := fnExactPictureOfRow.holds Try.pinned (OpenSpec.ofChange fnExactPictureOfSpec)

/-- ITS FALSE NEIGHBOUR: 'it returns false'. Refute it at one input. -/
def fnExactPictureOfWrong : ChangeSpec := { name := "fnExactPictureOf", fn := fun _ => fun
  | [d] => { results := [.lit (.bool false)], args := [d] }
  | _ => none }
def FnExactPictureOfWrongFalsely : Prop := fnExactPictureOfRow.holds Try.pinned (OpenSpec.ofChange fnExactPictureOfWrong)

/-- 'laws.FnExactSentSize': WHATEVER THE INPUT: true; the input reads as it did. -/
def fnExactSentSizeSpec : ChangeSpec := { name := "fnExactSentSize", fn := fun _ => fun
  | [d1, d2] => { results := [.lit (.bool true)], args := [d1, d2] }
  | _ => none }
def fnExactSentSizeRow : OpenClaim := { program := "ytplmeeookgefnaa", sum := "2fd8387422ab72d8f570e825d0c51e3f63bee3f6d69cfd0c5ec73ebcbce4ef1d", func := "loop.example/g00960/laws.FnExactSentSize", spec := "fnExactSentSize", apart := false }
def FnExactSentSizeSaid : Prop := fnExactSentSizeRow.holds Try.pinned (OpenSpec.ofChange fnExactSentSizeSpec)

/-- ITS FALSE NEIGHBOUR: 'it returns false'. Refute it at one input. -/
def fnExactSentSizeWrong : ChangeSpec := { name := "fnExactSentSize", fn := fun _ => fun
  | [d1, d2] => { results := [.lit (.bool false)], args := [d1, d2] }
  | _ => none }
def FnExactSentSizeWrongFalsely : Prop := fnExactSentSizeRow.holds Try.pinned (OpenSpec.ofChange fnExactSentSizeWrong)

/-- 'laws.FnExactQueueTick': WHATEVER THE INPUT: true; the input reads as it did. -/
def fnExactQueueTickSpec : ChangeSpec := { name := "fnExactQueueTick", fn := fun _ => fun
  | [d1, d2] => { results := [.lit (.bool true)], args := [d1, d2] }
  | _ => none }
def fnExactQueueTickRow : OpenClaim := { program := "ytplmeeookgefnaa", sum := "2fd8387422ab72d8f570e825d0c51e3f63bee3f6d69cfd0c5ec73ebcbce4ef1d", func := "loop.example/g00960/laws.FnExactQueueTick", spec := "fnExactQueueTick", apart := false }
def FnExactQueueTickSaid : Prop := fnExactQueueTickRow.holds Try.pinned (OpenSpec.ofChange fnExactQueueTickSpec)

/-- ITS FALSE NEIGHBOUR: 'it returns false'. Refute it at one input. -/
def fnExactQueueTickWrong : ChangeSpec := { name := "fnExactQueueTick", fn := fun _ => fun
  | [d1, d2] => { results := [.lit (.bool false)], args := [d1, d2] }
  | _ => none }
def FnExactQueueTickWrongFalsely : Prop := fnExactQueueTickRow.holds Try.pinned (OpenSpec.ofChange fnExactQueueTickWrong)

/-- 'laws.FnGivenUp': WHATEVER THE INPUT: true; the input reads as it did. -/
def fnGivenUpSpec : ChangeSpec := { name := "fnGivenUp", fn := fun _ => fun
  | [d] => { results := [.lit (.bool true)], args := [d] }
  | _ => none }
def fnGivenUpRow : OpenClaim := { program := "ytplmeeookgefnaa", sum := "2fd8387422ab72d8f570e825d0c51e3f63bee3f6d69cfd0c5ec73ebcbce4ef1d", func := "loop.example/g00960/laws.FnGivenUp", spec := "fnGivenUp", apart := false }
def FnGivenUpSaid : Prop := fnGivenUpRow.holds Try.pinned (OpenSpec.ofChange fnGivenUpSpec)

/-- ITS FALSE NEIGHBOUR: 'it returns false'. Refute it at one input. -/
def fnGivenUpWrong : ChangeSpec := { name := "fnGivenUp", fn := fun _ => fun
  | [d] => { results := [.lit (.bool false)], args := [d] }
  | _ => none }
def FnGivenUpWrongFalsely : Prop := fnGivenUpRow.holds Try.pinned (OpenSpec.ofChange fnGivenUpWrong)

/-- 'laws.FnExactQueueIn': WHATEVER THE INPUT: true; the input reads as it did. -/
def fnExactQueueInSpec : ChangeSpec := { name := "fnExactQueueIn", fn := fun _ => fun
  | [d1, d2] => { results := [.lit (.bool true)], args := [d1, d2] }
  | _ => none }
def fnExactQueueInRow : OpenClaim := { program := "ytplmeeookgefnaa", sum := "2fd8387422ab72d8f570e825d0c51e3f63bee3f6d69cfd0c5ec73ebcbce4ef1d", func := "loop.example/g00960/laws.FnExactQueueIn", spec := "fnExactQueueIn", apart := false }
def FnExactQueueInSaid : Prop := fnExactQueueInRow.holds Try.pinned (OpenSpec.ofChange fnExactQueueInSpec)

/-- ITS FALSE NEIGHBOUR: 'it returns false'. Refute it at one input. -/
def fnExactQueueInWrong : ChangeSpec := { name := "fnExactQueueIn", fn := fun _ => fun
  | [d1, d2] => { results := [.lit (.bool false)], args := [d1, d2] }
  | _ => none }
def FnExactQueueInWrongFalsely : Prop := fnExactQueueInRow.holds Try.pinned (OpenSpec.ofChange fnExactQueueInWrong)

/-- 'laws.FnQueues': WHATEVER THE INPUT: true; the input reads as it did. -/
def fnQueuesSpec : ChangeSpec := { name := "fnQueues", fn := fun _ => fun
  | [d] => { results := [.lit (.bool true)], args := [d] }
  | _ => none }
def fnQueuesRow : OpenClaim := { program := "ytplmeeookgefnaa", sum := "2fd8387422ab72d8f570e825d0c51e3f63bee3f6d69cfd0c5ec73ebcbce4ef1d", func := "loop.example/g00960/laws.FnQueues", spec := "fnQueues", apart := false }
def FnQueuesSaid : Prop := fnQueuesRow.holds Try.pinned (OpenSpec.ofChange fnQueuesSpec)

/-- ITS FALSE NEIGHBOUR: 'it returns false'. Refute it at one input. -/
def fnQueuesWrong : ChangeSpec := { name := "fnQueues", fn := fun _ => fun
  | [d] => { results := [.lit (.bool false)], args := [d] }
  | _ => none }
def FnQueuesWrongFalsely : Prop := fnQueuesRow.holds Try.pinned (OpenSpec.ofChange fnQueuesWrong)

/-- 'laws.FnExactSourceSets': WHATEVER THE INPUT: true; the input reads as it did. -/
def fnExactSourceSetsSpec : ChangeSpec := { name := "fnExactSourceSets", fn := fun _ => fun
  | [d] => { results := [.lit (.bool true)], args := [d] }
  | _ => none }
def fnExactSourceSetsRow : OpenClaim := { program := "ytplmeeookgefnaa", sum := "2fd8387422ab72d8f570e825d0c51e3f63bee3f6d69cfd0c5ec73ebcbce4ef1d", func := "loop.example/g00960/laws.FnExactSourceSets", spec := "fnExactSourceSets", apart := false }
def FnExactSourceSetsSaid : Prop := fnExactSourceSetsRow.holds Try.pinned (OpenSpec.ofChange fnExactSourceSetsSpec)

/-- ITS FALSE NEIGHBOUR: 'it returns false'. Refute it at one input. -/
def fnExactSourceSetsWrong : ChangeSpec := { name := "fnExactSourceSets", fn := fun _ => fun
  | [d] => { results := [.lit (.bool false)], args := [d] }
  | _ => none }
def FnExactSourceSetsWrongFalsely : Prop := fnExactSourceSetsRow.holds Try.pinned (OpenSpec.ofChange fnExactSourceSetsWrong)

/-- 'laws.FnSquareFor': WHATEVER THE INPUT: true; the input reads as it did. -/
def fnSquareForSpec : ChangeSpec := { name := "fnSquareFor", fn := fun _ => fun
  | [d] => { results := [.lit (.bool true)], args := [d] }
  | _ => none }
def fnSquareForRow : OpenClaim := { program := "ytplmeeookgefnaa", sum := "2fd8387422ab72d8f570e825d0c51e3f63bee3f6d69cfd0c5ec73ebcbce4ef1d", func := "loop.example/g00960/laws.FnSquareFor", spec := "fnSquareFor", unfollowed := true, recurses := true, apart := false }
def FnSquareForSaid : Prop := fnSquareForRow.holds Try.pinned (OpenSpec.ofChange fnSquareForSpec)

/-- ITS FALSE NEIGHBOUR: 'it returns false'. Refute it at one input. -/
def fnSquareForWrong : ChangeSpec := { name := "fnSquareFor", fn := fun _ => fun
  | [d] => { results := [.lit (.bool false)], args := [d] }
  | _ => none }
def FnSquareForWrongFalsely : Prop := fnSquareForRow.holds Try.pinned (OpenSpec.ofChange fnSquareForWrong)

/-- 'laws.FnStill': WHATEVER THE INPUT: true; the input reads as it did. -/
def fnStillSpec : ChangeSpec := { name := "fnStill", fn := fun _ => fun
  | [d] => { results := [.lit (.bool true)], args := [d] }
  | _ => none }
def fnStillRow : OpenClaim := { program := "ytplmeeookgefnaa", sum := "2fd8387422ab72d8f570e825d0c51e3f63bee3f6d69cfd0c5ec73ebcbce4ef1d", func := "loop.example/g00960/laws.FnStill", spec := "fnStill", unfollowed := true, recurses := true, apart := false }
def FnStillSaid : Prop := fnStillRow.holds Try.pinned (OpenSpec.ofChange fnStillSpec)

/-- ITS FALSE NEIGHBOUR: 'it returns false'. Refute it at one input. -/
def fnStillWrong : ChangeSpec := { name := "fnStill", fn := fun _ => fun
  | [d] => { results := [.lit (.bool false)], args := [d] }
  | _ => none }
def FnStillWrongFalsely : Prop := fnStillRow.holds Try.pinned (OpenSpec.ofChange fnStillWrong)

/-- 'laws.FnFills': WHATEVER THE INPUT: true; the input reads as it did. -/
def fnFillsSpec : ChangeSpec := { name := "fnFills", fn := fun _ => fun
  | [d] => { results := [.lit (.bool true)], args := [d] }
  | _ => none }
def fnFillsRow : OpenClaim := { program := "ytplmeeookgefnaa", sum := "2fd8387422ab72d8f570e825d0c51e3f63bee3f6d69cfd0c5ec73ebcbce4ef1d", func := "loop.example/g00960/laws.FnFills", spec := "fnFills", unfollowed := true, recurses := true, apart := false }
def FnFillsSaid : Prop := fnFillsRow.holds Try.pinned (OpenSpec.ofChange fnFillsSpec)

/-- ITS FALSE NEIGHBOUR: 'it returns false'. Refute it at one input. -/
def fnFillsWrong : ChangeSpec := { name := "fnFills", fn := fun _ => fun
  | [d] => { results := [.lit (.bool false)], args := [d] }
  | _ => none }
def FnFillsWrongFalsely : Prop := fnFillsRow.holds Try.pinned (OpenSpec.ofChange fnFillsWrong)

/-- 'laws.FnSends': WHATEVER THE INPUT: true; the input reads as it did. -/
def fnSendsSpec : ChangeSpec := { name := "fnSends", fn := fun _ => fun
  | [d] => { results := [.lit (.bool true)], args := [d] }
  | _ => none }
def fnSendsRow : OpenClaim := { program := "ytplmeeookgefnaa", sum := "2fd8387422ab72d8f570e825d0c51e3f63bee3f6d69cfd0c5ec73ebcbce4ef1d", func := "loop.example/g00960/laws.FnSends", spec := "fnSends", unfollowed := true, recurses := true, apart := false }
def FnSendsSaid : Prop := fnSendsRow.holds Try.pinned (OpenSpec.ofChange fnSendsSpec)

/-- ITS FALSE NEIGHBOUR: 'it returns false'. Refute it at one input. -/
def fnSendsWrong : ChangeSpec := { name := "fnSends", fn := fun _ => fun
  | [d] => { results := [.lit (.bool false)], args := [d] }
  | _ => none }
def FnSendsWrongFalsely : Prop := fnSendsRow.holds Try.pinned (OpenSpec.ofChange fnSendsWrong)

/-- 'laws.FnExactTileBack': WHATEVER THE INPUT: true; the input reads as it did. -/
def fnExactTileBackSpec : ChangeSpec := { name := "fnExactTileBack", fn := fun _ => fun
  | [d1, d2, d3, d4, d5] => { results := [.lit (.bool true)], args := [d1, d2, d3, d4, d5] }
  | _ => none }
def fnExactTileBackRow : OpenClaim := { program := "ytplmeeookgefnaa", sum := "2fd8387422ab72d8f570e825d0c51e3f63bee3f6d69cfd0c5ec73ebcbce4ef1d", func := "loop.example/g00960/laws.FnExactTileBack", spec := "fnExactTileBack", unfollowed := true, recurses := true, apart := false }
def FnExactTileBackSaid : Prop := fnExactTileBackRow.holds Try.pinned (OpenSpec.ofChange fnExactTileBackSpec)

/-- ITS FALSE NEIGHBOUR: 'it returns false'. Refute it at one input. -/
def fnExactTileBackWrong : ChangeSpec := { name := "fnExactTileBack", fn := fun _ => fun
  | [d1, d2, d3, d4, d5] => { results := [.lit (.bool false)], args := [d1, d2, d3, d4, d5] }
  | _ => none }
def FnExactTileBackWrongFalsely : Prop := fnExactTileBackRow.holds Try.pinned (OpenSpec.ofChange fnExactTileBackWrong)

/- THE SECOND FORM. 'bulk': how many values and letters a reading holds, each counted each time it is reached (what is shared counts as often as it is met; a slice's spare places count too). A statement '..UptoSaid' is the law's where the arguments, and the package variables that the reading takes, are together of bulk at most 1048576: NARROWER than '..Said'. Prove '..Said' where nothing that the law and all that it calls make is longer than what came in: it says more and counts as full. Else prove '..UptoSaid'. A law counts once. -/
mutual
def uptoBulk {H : Type} : DataW H → Nat
  | .lit (.string bytes) => bytes.length + 1
  | .lit _ => 1
  | .nil => 1
  | .ptr d => uptoBulk d + 1
  | .slice elems spare => uptoBulkAll elems + uptoBulkAll spare + 1
  | .agg parts => uptoBulkAll parts + 1
  | .iface _ d => uptoBulk d + 1
  | .map entries => uptoBulkEntries entries + 1
  | .held _ => 1
def uptoBulkAll {H : Type} : List (DataW H) → Nat
  | [] => 0
  | d :: r => uptoBulk d + uptoBulkAll r
def uptoBulkEntries {H : Type} : List (Lit × DataW H) → Nat
  | [] => 0
  | x :: r => uptoBulkEntry x + uptoBulkEntries r
def uptoBulkEntry {H : Type} : Lit × DataW H → Nat
  | (.string bytes, d) => bytes.length + uptoBulk d + 1
  | (_, d) => uptoBulk d + 1
 end
def uptoSmall : (H : Type) → List (DataW H) → Bool := fun _ ds => decide (uptoBulkAll ds ≤ 1048576)
def OpenSpec.upto (s : _root_.Go.ChangeSpec) : _root_.Go.OpenSpec := { _root_.Go.OpenSpec.ofChange s with cond := some uptoSmall }

/-- 'laws.FnRates', WHERE WHAT IT READS IS OF BULK AT MOST 1048576: true; the input reads as it did. -/
def fnRatesUptoRow : OpenClaim := { program := "ytplmeeookgefnaa", sum := "2fd8387422ab72d8f570e825d0c51e3f63bee3f6d69cfd0c5ec73ebcbce4ef1d", func := "loop.example/g00960/laws.FnRates", spec := "fnRates", apart := false, narrowed := true }
def FnRatesUptoSaid : Prop := fnRatesUptoRow.holds Try.pinned (OpenSpec.upto fnRatesSpec)

/-- 'laws.FnBestMove', WHERE WHAT IT READS IS OF BULK AT MOST 1048576: true; the input reads as it did. -/
def fnBestMoveUptoRow : OpenClaim := { program := "ytplmeeookgefnaa", sum := "2fd8387422ab72d8f570e825d0c51e3f63bee3f6d69cfd0c5ec73ebcbce4ef1d", func := "loop.example/g00960/laws.FnBestMove", spec := "fnBestMove", apart := false, narrowed := true }
def FnBestMoveUptoSaid : Prop := fnBestMoveUptoRow.holds Try.pinned (OpenSpec.upto fnBestMoveSpec)

/-- 'laws.FnExactSourceNew', WHERE WHAT IT READS IS OF BULK AT MOST 1048576: true; the input reads as it did. -/
def fnExactSourceNewUptoRow : OpenClaim := { program := "ytplmeeookgefnaa", sum := "2fd8387422ab72d8f570e825d0c51e3f63bee3f6d69cfd0c5ec73ebcbce4ef1d", func := "loop.example/g00960/laws.FnExactSourceNew", spec := "fnExactSourceNew", apart := false, narrowed := true }
def FnExactSourceNewUptoSaid : Prop := fnExactSourceNewUptoRow.holds Try.pinned (OpenSpec.upto fnExactSourceNewSpec)

/-- 'laws.FnExactPictureOf', WHERE WHAT IT READS IS OF BULK AT MOST 1048576: true; the input reads as it did. -/
def fnExactPictureOfUptoRow : OpenClaim := { program := "ytplmeeookgefnaa", sum := "2fd8387422ab72d8f570e825d0c51e3f63bee3f6d69cfd0c5ec73ebcbce4ef1d", func := "loop.example/g00960/laws.FnExactPictureOf", spec := "fnExactPictureOf", apart := false, narrowed := true }
def FnExactPictureOfUptoSaid : Prop := fnExactPictureOfUptoRow.holds Try.pinned (OpenSpec.upto fnExactPictureOfSpec)

/-- 'laws.FnExactSentSize', WHERE WHAT IT READS IS OF BULK AT MOST 1048576: true; the input reads as it did. -/
def fnExactSentSizeUptoRow : OpenClaim := { program := "ytplmeeookgefnaa", sum := "2fd8387422ab72d8f570e825d0c51e3f63bee3f6d69cfd0c5ec73ebcbce4ef1d", func := "loop.example/g00960/laws.FnExactSentSize", spec := "fnExactSentSize", apart := false, narrowed := true }
def FnExactSentSizeUptoSaid : Prop := fnExactSentSizeUptoRow.holds Try.pinned (OpenSpec.upto fnExactSentSizeSpec)

/-- 'laws.FnExactQueueTick', WHERE WHAT IT READS IS OF BULK AT MOST 1048576: true; the input reads as it did. -/
def fnExactQueueTickUptoRow : OpenClaim := { program := "ytplmeeookgefnaa", sum := "2fd8387422ab72d8f570e825d0c51e3f63bee3f6d69cfd0c5ec73ebcbce4ef1d", func := "loop.example/g00960/laws.FnExactQueueTick", spec := "fnExactQueueTick", apart := false, narrowed := true }
def FnExactQueueTickUptoSaid : Prop := fnExactQueueTickUptoRow.holds Try.pinned (OpenSpec.upto fnExactQueueTickSpec)

/-- 'laws.FnGivenUp', WHERE WHAT IT READS IS OF BULK AT MOST 1048576: true; the input reads as it did. -/
def fnGivenUpUptoRow : OpenClaim := { program := "ytplmeeookgefnaa", sum := "2fd8387422ab72d8f570e825d0c51e3f63bee3f6d69cfd0c5ec73ebcbce4ef1d", func := "loop.example/g00960/laws.FnGivenUp", spec := "fnGivenUp", apart := false, narrowed := true }
def FnGivenUpUptoSaid : Prop := fnGivenUpUptoRow.holds Try.pinned (OpenSpec.upto fnGivenUpSpec)

/-- 'laws.FnExactQueueIn', WHERE WHAT IT READS IS OF BULK AT MOST 1048576: true; the input reads as it did. -/
def fnExactQueueInUptoRow : OpenClaim := { program := "ytplmeeookgefnaa", sum := "2fd8387422ab72d8f570e825d0c51e3f63bee3f6d69cfd0c5ec73ebcbce4ef1d", func := "loop.example/g00960/laws.FnExactQueueIn", spec := "fnExactQueueIn", apart := false, narrowed := true }
def FnExactQueueInUptoSaid : Prop := fnExactQueueInUptoRow.holds Try.pinned (OpenSpec.upto fnExactQueueInSpec)

/-- 'laws.FnQueues', WHERE WHAT IT READS IS OF BULK AT MOST 1048576: true; the input reads as it did. -/
def fnQueuesUptoRow : OpenClaim := { program := "ytplmeeookgefnaa", sum := "2fd8387422ab72d8f570e825d0c51e3f63bee3f6d69cfd0c5ec73ebcbce4ef1d", func := "loop.example/g00960/laws.FnQueues", spec := "fnQueues", apart := false, narrowed := true }
def FnQueuesUptoSaid : Prop := fnQueuesUptoRow.holds Try.pinned (OpenSpec.upto fnQueuesSpec)

/-- 'laws.FnExactSourceSets', WHERE WHAT IT READS IS OF BULK AT MOST 1048576: true; the input reads as it did. -/
def fnExactSourceSetsUptoRow : OpenClaim := { program := "ytplmeeookgefnaa", sum := "2fd8387422ab72d8f570e825d0c51e3f63bee3f6d69cfd0c5ec73ebcbce4ef1d", func := "loop.example/g00960/laws.FnExactSourceSets", spec := "fnExactSourceSets", apart := false, narrowed := true }
def FnExactSourceSetsUptoSaid : Prop := fnExactSourceSetsUptoRow.holds Try.pinned (OpenSpec.upto fnExactSourceSetsSpec)

/-- 'laws.FnSquareFor', WHERE WHAT IT READS IS OF BULK AT MOST 1048576: true; the input reads as it did. -/
def fnSquareForUptoRow : OpenClaim := { program := "ytplmeeookgefnaa", sum := "2fd8387422ab72d8f570e825d0c51e3f63bee3f6d69cfd0c5ec73ebcbce4ef1d", func := "loop.example/g00960/laws.FnSquareFor", spec := "fnSquareFor", unfollowed := true, recurses := true, apart := false, narrowed := true }
def FnSquareForUptoSaid : Prop := fnSquareForUptoRow.holds Try.pinned (OpenSpec.upto fnSquareForSpec)

/-- 'laws.FnStill', WHERE WHAT IT READS IS OF BULK AT MOST 1048576: true; the input reads as it did. -/
def fnStillUptoRow : OpenClaim := { program := "ytplmeeookgefnaa", sum := "2fd8387422ab72d8f570e825d0c51e3f63bee3f6d69cfd0c5ec73ebcbce4ef1d", func := "loop.example/g00960/laws.FnStill", spec := "fnStill", unfollowed := true, recurses := true, apart := false, narrowed := true }
def FnStillUptoSaid : Prop := fnStillUptoRow.holds Try.pinned (OpenSpec.upto fnStillSpec)

/-- 'laws.FnFills', WHERE WHAT IT READS IS OF BULK AT MOST 1048576: true; the input reads as it did. -/
def fnFillsUptoRow : OpenClaim := { program := "ytplmeeookgefnaa", sum := "2fd8387422ab72d8f570e825d0c51e3f63bee3f6d69cfd0c5ec73ebcbce4ef1d", func := "loop.example/g00960/laws.FnFills", spec := "fnFills", unfollowed := true, recurses := true, apart := false, narrowed := true }
def FnFillsUptoSaid : Prop := fnFillsUptoRow.holds Try.pinned (OpenSpec.upto fnFillsSpec)

/-- 'laws.FnSends', WHERE WHAT IT READS IS OF BULK AT MOST 1048576: true; the input reads as it did. -/
def fnSendsUptoRow : OpenClaim := { program := "ytplmeeookgefnaa", sum := "2fd8387422ab72d8f570e825d0c51e3f63bee3f6d69cfd0c5ec73ebcbce4ef1d", func := "loop.example/g00960/laws.FnSends", spec := "fnSends", unfollowed := true, recurses := true, apart := false, narrowed := true }
def FnSendsUptoSaid : Prop := fnSendsUptoRow.holds Try.pinned (OpenSpec.upto fnSendsSpec)

/-- 'laws.FnExactTileBack', WHERE WHAT IT READS IS OF BULK AT MOST 1048576: true; the input reads as it did. -/
def fnExactTileBackUptoRow : OpenClaim := { program := "ytplmeeookgefnaa", sum := "2fd8387422ab72d8f570e825d0c51e3f63bee3f6d69cfd0c5ec73ebcbce4ef1d", func := "loop.example/g00960/laws.FnExactTileBack", spec := "fnExactTileBack", unfollowed := true, recurses := true, apart := false, narrowed := true }
def FnExactTileBackUptoSaid : Prop := fnExactTileBackUptoRow.holds Try.pinned (OpenSpec.upto fnExactTileBackSpec)

end Rows
end Go.Proofs.Ytplmeeookgefnaa
