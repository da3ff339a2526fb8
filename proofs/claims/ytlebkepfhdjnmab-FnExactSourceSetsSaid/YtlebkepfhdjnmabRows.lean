/-
  No cell of these rows narrows 'for every input' (looked for: loops, veiled, ifaces, maps, wideKeys, modest, calm, conditions, laid).
  DERIVED. THE GIVEN ROWS OF THIS SEAT. 5 by the template 'for every input the law returns true; each argument reads behind the call as it read before'; 0 by the template 'total and deterministic' (their statements: YtlebkepfhdjnmabTotals.lean).
  GIVEN WITH THE SEED: the statements are not yours to turn. If you find one false, say at which input.
  Laid BY PROGRAM, IN A SANDBOX (cutbox-rows.mjs): the forced cells as the released guide's own fill.sh prints them over the translation 1e9cbed862494caa… (all of the seat's roots in one cut). By AI agents, Wed Nov 11 2026. No macro, syntax, notation, axiom, sorry.
-/
import Derived.Test.YtlebkepfhdjnmabChecked
import GoSem.Claim
import GoSem.ClaimJoined
import GoSem.ClaimMapViews
import Derived.JoinedTies
import Derived.KernelRfl
namespace Go.Proofs.Ytlebkepfhdjnmab
/- THE CELL 'sum', in the pinned program and in every row, IS THE sha256 OF THE DUMP (.gsa) THAT YtlebkepfhdjnmabProg.lean LOADS. Nothing in Lean hashes anything: it is a label: what it is worth is what the hold of that sum in a sandbox is worth. -/
noncomputable def Try.pinned : Pinned := { name := "ytlebkepfhdjnmab", sum := "1e9cbed862494caab7d4f60925b2a40e89c748f5128415f353d6db9ade45a533", checked := Try.checked }
namespace Rows
def none {H : Type} : Left H := { results := [], args := [] }

/-- 'laws.FnBestMove': WHATEVER THE INPUT: true; the input reads as it did. -/
def fnBestMoveSpec : ChangeSpec := { name := "fnBestMove", fn := fun _ => fun
  | [d] => { results := [.lit (.bool true)], args := [d] }
  | _ => none }
def fnBestMoveRow : OpenClaim := { program := "ytlebkepfhdjnmab", sum := "1e9cbed862494caab7d4f60925b2a40e89c748f5128415f353d6db9ade45a533", func := "loop.example/g00960/laws.FnBestMove", spec := "fnBestMove", apart := false }
def FnBestMoveSaid : Prop := fnBestMoveRow.holds Try.pinned (OpenSpec.ofChange fnBestMoveSpec)

/-- ITS FALSE NEIGHBOUR: 'it returns false'. Refute it at one input. -/
def fnBestMoveWrong : ChangeSpec := { name := "fnBestMove", fn := fun _ => fun
  | [d] => { results := [.lit (.bool false)], args := [d] }
  | _ => none }
def FnBestMoveWrongFalsely : Prop := fnBestMoveRow.holds Try.pinned (OpenSpec.ofChange fnBestMoveWrong)

/-- 'laws.FnExactPictureOf': WHATEVER THE INPUT: true; the input reads as it did. -/
def fnExactPictureOfSpec : ChangeSpec := { name := "fnExactPictureOf", fn := fun _ => fun
  | [d] => { results := [.lit (.bool true)], args := [d] }
  | _ => none }
def fnExactPictureOfRow : OpenClaim := { program := "ytlebkepfhdjnmab", sum := "1e9cbed862494caab7d4f60925b2a40e89c748f5128415f353d6db9ade45a533", func := "loop.example/g00960/laws.FnExactPictureOf", spec := "fnExactPictureOf", apart := false }
def FnExactPictureOfSaid : Prop := fnExactPictureOfRow.holds Try.pinned (OpenSpec.ofChange fnExactPictureOfSpec)

/-- ITS FALSE NEIGHBOUR: 'it returns false'. Refute it at one input. -/
def fnExactPictureOfWrong : ChangeSpec := { name := "fnExactPictureOf", fn := fun _ => fun
  | [d] => { results := [.lit (.bool false)], args := [d] }
  | _ => none }
def FnExactPictureOfWrongFalsely : Prop := fnExactPictureOfRow.holds Try.pinned (OpenSpec.ofChange fnExactPictureOfWrong)

/-- 'laws.FnExactSentSize': WHATEVER THE INPUT: true; the input reads as it did. -/
def fnExactSentSizeSpec : ChangeSpec := { name := "fnExactSentSize", fn := fun _ => fun
  | [d1, d2] => { results := [.lit (.bool true)], args := [d1, d2] }
  | _ => none }
def fnExactSentSizeRow : OpenClaim := { program := "ytlebkepfhdjnmab", sum := "1e9cbed862494caab7d4f60925b2a40e89c748f5128415f353d6db9ade45a533", func := "loop.example/g00960/laws.FnExactSentSize", spec := "fnExactSentSize", apart := false }
def FnExactSentSizeSaid : Prop := fnExactSentSizeRow.holds Try.pinned (OpenSpec.ofChange fnExactSentSizeSpec)

/-- ITS FALSE NEIGHBOUR: 'it returns false'. Refute it at one input. -/
def fnExactSentSizeWrong : ChangeSpec := { name := "fnExactSentSize", fn := fun _ => fun
  | [d1, d2] => { results := [.lit (.bool false)], args := [d1, d2] }
  | _ => none }
def FnExactSentSizeWrongFalsely : Prop := fnExactSentSizeRow.holds Try.pinned (OpenSpec.ofChange fnExactSentSizeWrong)

/-- 'laws.FnExactSourceNew': WHATEVER THE INPUT: true; the input reads as it did. -/
def fnExactSourceNewSpec : ChangeSpec := { name := "fnExactSourceNew", fn := fun _ => fun
  | [d1, d2, d3, d4, d5, d6, d7] => { results := [.lit (.bool true)], args := [d1, d2, d3, d4, d5, d6, d7] }
  | _ => none }
def fnExactSourceNewRow : OpenClaim := { program := "ytlebkepfhdjnmab", sum := "1e9cbed862494caab7d4f60925b2a40e89c748f5128415f353d6db9ade45a533", func := "loop.example/g00960/laws.FnExactSourceNew", spec := "fnExactSourceNew", apart := false }
def FnExactSourceNewSaid : Prop := fnExactSourceNewRow.holds Try.pinned (OpenSpec.ofChange fnExactSourceNewSpec)

/-- ITS FALSE NEIGHBOUR: 'it returns false'. Refute it at one input. -/
def fnExactSourceNewWrong : ChangeSpec := { name := "fnExactSourceNew", fn := fun _ => fun
  | [d1, d2, d3, d4, d5, d6, d7] => { results := [.lit (.bool false)], args := [d1, d2, d3, d4, d5, d6, d7] }
  | _ => none }
def FnExactSourceNewWrongFalsely : Prop := fnExactSourceNewRow.holds Try.pinned (OpenSpec.ofChange fnExactSourceNewWrong)

/-- 'laws.FnExactSourceSets': WHATEVER THE INPUT: true; the input reads as it did. -/
def fnExactSourceSetsSpec : ChangeSpec := { name := "fnExactSourceSets", fn := fun _ => fun
  | [d] => { results := [.lit (.bool true)], args := [d] }
  | _ => none }
def fnExactSourceSetsRow : OpenClaim := { program := "ytlebkepfhdjnmab", sum := "1e9cbed862494caab7d4f60925b2a40e89c748f5128415f353d6db9ade45a533", func := "loop.example/g00960/laws.FnExactSourceSets", spec := "fnExactSourceSets", apart := false }
def FnExactSourceSetsSaid : Prop := fnExactSourceSetsRow.holds Try.pinned (OpenSpec.ofChange fnExactSourceSetsSpec)

/-- ITS FALSE NEIGHBOUR: 'it returns false'. Refute it at one input. -/
def fnExactSourceSetsWrong : ChangeSpec := { name := "fnExactSourceSets", fn := fun _ => fun
  | [d] => { results := [.lit (.bool false)], args := [d] }
  | _ => none }
def FnExactSourceSetsWrongFalsely : Prop := fnExactSourceSetsRow.holds Try.pinned (OpenSpec.ofChange fnExactSourceSetsWrong)

/- THE SECOND FORM. 'bulk': how many values and letters a reading holds, each counted each time it is reached (what is shared counts as often as it is met; a slice's spare places count too). A statement '..UptoSaid' is the law's where the arguments, and the package variables that the reading takes, are together of bulk at most 1048576: NARROWER than '..Said'. Prove '..Said' where nothing that the law and all that it calls make is longer than what came in: it says more and counts as full. Else prove '..UptoSaid'. A law counts once. -/
mutual
def uptoBulk {H : Type} : DataW H → Nat
  | .lit (.string bytes) => bytes.length + 1
  | .lit _ => 1
  | .nil => 1
  | .ptr d => uptoBulk d + 1
  | .slice elems spare => uptoBulkAll elems + uptoBulkAll spare + 1
  | .agg parts => uptoBulkAll parts + 1
  | .iface _ d => uptoBulk d + 1
  | .map entries => uptoBulkEntries entries + 1
  | .held _ => 1
def uptoBulkAll {H : Type} : List (DataW H) → Nat
  | [] => 0
  | d :: r => uptoBulk d + uptoBulkAll r
def uptoBulkEntries {H : Type} : List (Lit × DataW H) → Nat
  | [] => 0
  | x :: r => uptoBulkEntry x + uptoBulkEntries r
def uptoBulkEntry {H : Type} : Lit × DataW H → Nat
  | (.string bytes, d) => bytes.length + uptoBulk d + 1
  | (_, d) => uptoBulk d + 1
 end
def uptoSmall : (H : Type) → List (DataW H) → Bool := fun _ ds => decide (uptoBulkAll ds ≤ 1048576)
def OpenSpec.upto (s : _root_.Go.ChangeSpec) : _root_.Go.OpenSpec := { _root_.Go.OpenSpec.ofChange s with cond := some uptoSmall }

/-- 'laws.FnBestMove', WHERE WHAT IT READS IS OF BULK AT MOST 1048576: true; the input reads as it did. -/
def fnBestMoveUptoRow : OpenClaim := { program := "ytlebkepfhdjnmab", sum := "1e9cbed862494caab7d4f60925b2a40e89c748f5128415f353d6db9ade45a533", func := "loop.example/g00960/laws.FnBestMove", spec := "fnBestMove", apart := false, narrowed := true }
def FnBestMoveUptoSaid : Prop := fnBestMoveUptoRow.holds Try.pinned (OpenSpec.upto fnBestMoveSpec)

/-- 'laws.FnExactPictureOf', WHERE WHAT IT READS IS OF BULK AT MOST 1048576: true; the input reads as it did. -/
def fnExactPictureOfUptoRow : OpenClaim := { program := "ytlebkepfhdjnmab", sum := "1e9cbed862494caab7d4f60925b2a40e89c748f5128415f353d6db9ade45a533", func := "loop.example/g00960/laws.FnExactPictureOf", spec := "fnExactPictureOf", apart := false, narrowed := true }
def FnExactPictureOfUptoSaid : Prop := fnExactPictureOfUptoRow.holds Try.pinned (OpenSpec.upto fnExactPictureOfSpec)

/-- 'laws.FnExactSentSize', WHERE WHAT IT READS IS OF BULK AT MOST 1048576: true; the input reads as it did. -/
def fnExactSentSizeUptoRow : OpenClaim := { program := "ytlebkepfhdjnmab", sum := "1e9cbed862494caab7d4f60925b2a40e89c748f5128415f353d6db9ade45a533", func := "loop.example/g00960/laws.FnExactSentSize", spec := "fnExactSentSize", apart := false, narrowed := true }
def FnExactSentSizeUptoSaid : Prop := fnExactSentSizeUptoRow.holds Try.pinned (OpenSpec.upto fnExactSentSizeSpec)

/-- 'laws.FnExactSourceNew', WHERE WHAT IT READS IS OF BULK AT MOST 1048576: true; the input reads as it did. -/
def fnExactSourceNewUptoRow : OpenClaim := { program := "ytlebkepfhdjnmab", sum := "1e9cbed862494caab7d4f60925b2a40e89c748f5128415f353d6db9ade45a533", func := "loop.example/g00960/laws.FnExactSourceNew", spec := "fnExactSourceNew", apart := false, narrowed := true }
def FnExactSourceNewUptoSaid : Prop := fnExactSourceNewUptoRow.holds Try.pinned (OpenSpec.upto fnExactSourceNewSpec)

/-- 'laws.FnExactSourceSets', WHERE WHAT IT READS IS OF BULK AT MOST 1048576: true; the input reads as it did. -/
def fnExactSourceSetsUptoRow : OpenClaim := { program := "ytlebkepfhdjnmab", sum := "1e9cbed862494caab7d4f60925b2a40e89c748f5128415f353d6db9ade45a533", func := "loop.example/g00960/laws.FnExactSourceSets", spec := "fnExactSourceSets", apart := false, narrowed := true }
def FnExactSourceSetsUptoSaid : Prop := fnExactSourceSetsUptoRow.holds Try.pinned (OpenSpec.upto fnExactSourceSetsSpec)

end Rows
end Go.Proofs.Ytlebkepfhdjnmab
