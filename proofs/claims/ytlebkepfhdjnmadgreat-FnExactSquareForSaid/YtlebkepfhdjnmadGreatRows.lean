/-
  No cell of these rows narrows 'for every input' (looked for: loops, veiled, ifaces, maps, wideKeys, modest, calm, conditions, laid).
  DERIVED. THE GIVEN ROWS OF THIS SEAT. 4 by the template 'for every input the law returns true; each argument reads behind the call as it read before'; 0 by the template 'total and deterministic' (their statements: YtlebkepfhdjnmadGreatTotals.lean).
  GIVEN WITH THE SEED: the statements are not yours to turn. If you find one false, say at which input.
  Laid BY PROGRAM, IN A SANDBOX (cutbox-rows.mjs): the forced cells as the released guide's own fill.sh prints them over the translation 66e4a68a7432339d… (all of the seat's roots in one cut). By AI agents, Wed Nov 11 2026. No macro, syntax, notation, axiom, sorry.
-/
import Derived.Test.YtlebkepfhdjnmadGreatChecked
import GoSem.Claim
import GoSem.ClaimJoined
import GoSem.ClaimMapViews
import Derived.JoinedTies
import Derived.KernelRfl
namespace Go.Proofs.YtlebkepfhdjnmadGreat
/- THE CELL 'sum', in the pinned program and in every row, IS THE sha256 OF THE DUMP (.gsa) THAT YtlebkepfhdjnmadGreatProg.lean LOADS. Nothing in Lean hashes anything: it is a label: what it is worth is what the hold of that sum in a sandbox is worth. -/
noncomputable def Tryz.pinned : Pinned := { name := "ytlebkepfhdjnmadgreat", sum := "66e4a68a7432339de8db07e66e20324cab3c83d55e686e80dc09bfc4c64aa8f9", checked := Tryz.checked }
namespace Rows
def none {H : Type} : Left H := { results := [], args := [] }

/-- 'laws.FnExactPartShows': WHATEVER THE INPUT: true; the input reads as it did. -/
def fnExactPartShowsSpec : ChangeSpec := { name := "fnExactPartShows", fn := fun _ => fun
  | [d1, d2, d3, d4] => { results := [.lit (.bool true)], args := [d1, d2, d3, d4] }
  | _ => none }
def fnExactPartShowsRow : OpenClaim := { program := "ytlebkepfhdjnmadgreat", sum := "66e4a68a7432339de8db07e66e20324cab3c83d55e686e80dc09bfc4c64aa8f9", func := "loop.example/g00960/laws.FnExactPartShows", spec := "fnExactPartShows", unfollowed := true, recurses := true, apart := false }
def FnExactPartShowsSaid : Prop := fnExactPartShowsRow.holds Tryz.pinned (OpenSpec.ofChange fnExactPartShowsSpec)

/-- ITS FALSE NEIGHBOUR: 'it returns false'. Refute it at one input. -/
def fnExactPartShowsWrong : ChangeSpec := { name := "fnExactPartShows", fn := fun _ => fun
  | [d1, d2, d3, d4] => { results := [.lit (.bool false)], args := [d1, d2, d3, d4] }
  | _ => none }
def FnExactPartShowsWrongFalsely : Prop := fnExactPartShowsRow.holds Tryz.pinned (OpenSpec.ofChange fnExactPartShowsWrong)

/-- 'laws.FnExactSquareFor': WHATEVER THE INPUT: true; the input reads as it did. -/
def fnExactSquareForSpec : ChangeSpec := { name := "fnExactSquareFor", fn := fun _ => fun
  | [d1, d2, d3, d4, d5, d6, d7] => { results := [.lit (.bool true)], args := [d1, d2, d3, d4, d5, d6, d7] }
  | _ => none }
def fnExactSquareForRow : OpenClaim := { program := "ytlebkepfhdjnmadgreat", sum := "66e4a68a7432339de8db07e66e20324cab3c83d55e686e80dc09bfc4c64aa8f9", func := "loop.example/g00960/laws.FnExactSquareFor", spec := "fnExactSquareFor", unfollowed := true, recurses := true, apart := false }
def FnExactSquareForSaid : Prop := fnExactSquareForRow.holds Tryz.pinned (OpenSpec.ofChange fnExactSquareForSpec)

/-- ITS FALSE NEIGHBOUR: 'it returns false'. Refute it at one input. -/
def fnExactSquareForWrong : ChangeSpec := { name := "fnExactSquareFor", fn := fun _ => fun
  | [d1, d2, d3, d4, d5, d6, d7] => { results := [.lit (.bool false)], args := [d1, d2, d3, d4, d5, d6, d7] }
  | _ => none }
def FnExactSquareForWrongFalsely : Prop := fnExactSquareForRow.holds Tryz.pinned (OpenSpec.ofChange fnExactSquareForWrong)

/-- 'laws.FnInOrder': WHATEVER THE INPUT: true; the input reads as it did. -/
def fnInOrderSpec : ChangeSpec := { name := "fnInOrder", fn := fun _ => fun
  | [d] => { results := [.lit (.bool true)], args := [d] }
  | _ => none }
def fnInOrderRow : OpenClaim := { program := "ytlebkepfhdjnmadgreat", sum := "66e4a68a7432339de8db07e66e20324cab3c83d55e686e80dc09bfc4c64aa8f9", func := "loop.example/g00960/laws.FnInOrder", spec := "fnInOrder", apart := false }
def FnInOrderSaid : Prop := fnInOrderRow.holds Tryz.pinned (OpenSpec.ofChange fnInOrderSpec)

/-- ITS FALSE NEIGHBOUR: 'it returns false'. Refute it at one input. -/
def fnInOrderWrong : ChangeSpec := { name := "fnInOrder", fn := fun _ => fun
  | [d] => { results := [.lit (.bool false)], args := [d] }
  | _ => none }
def FnInOrderWrongFalsely : Prop := fnInOrderRow.holds Tryz.pinned (OpenSpec.ofChange fnInOrderWrong)

/-- 'laws.FnPackets': WHATEVER THE INPUT: true; the input reads as it did. -/
def fnPacketsSpec : ChangeSpec := { name := "fnPackets", fn := fun _ => fun
  | [d] => { results := [.lit (.bool true)], args := [d] }
  | _ => none }
def fnPacketsRow : OpenClaim := { program := "ytlebkepfhdjnmadgreat", sum := "66e4a68a7432339de8db07e66e20324cab3c83d55e686e80dc09bfc4c64aa8f9", func := "loop.example/g00960/laws.FnPackets", spec := "fnPackets", apart := false }
def FnPacketsSaid : Prop := fnPacketsRow.holds Tryz.pinned (OpenSpec.ofChange fnPacketsSpec)

/-- ITS FALSE NEIGHBOUR: 'it returns false'. Refute it at one input. -/
def fnPacketsWrong : ChangeSpec := { name := "fnPackets", fn := fun _ => fun
  | [d] => { results := [.lit (.bool false)], args := [d] }
  | _ => none }
def FnPacketsWrongFalsely : Prop := fnPacketsRow.holds Tryz.pinned (OpenSpec.ofChange fnPacketsWrong)

/- THE SECOND FORM. 'bulk': how many values and letters a reading holds, each counted each time it is reached (what is shared counts as often as it is met; a slice's spare places count too). A statement '..UptoSaid' is the law's where the arguments, and the package variables that the reading takes, are together of bulk at most 1048576: NARROWER than '..Said'. Prove '..Said' where nothing that the law and all that it calls make is longer than what came in: it says more and counts as full. Else prove '..UptoSaid'. A law counts once. -/
mutual
def uptoBulk {H : Type} : DataW H → Nat
  | .lit (.string bytes) => bytes.length + 1
  | .lit _ => 1
  | .nil => 1
  | .ptr d => uptoBulk d + 1
  | .slice elems spare => uptoBulkAll elems + uptoBulkAll spare + 1
  | .agg parts => uptoBulkAll parts + 1
  | .iface _ d => uptoBulk d + 1
  | .map entries => uptoBulkEntries entries + 1
  | .held _ => 1
def uptoBulkAll {H : Type} : List (DataW H) → Nat
  | [] => 0
  | d :: r => uptoBulk d + uptoBulkAll r
def uptoBulkEntries {H : Type} : List (Lit × DataW H) → Nat
  | [] => 0
  | x :: r => uptoBulkEntry x + uptoBulkEntries r
def uptoBulkEntry {H : Type} : Lit × DataW H → Nat
  | (.string bytes, d) => bytes.length + uptoBulk d + 1
  | (_, d) => uptoBulk d + 1
 end
def uptoSmall : (H : Type) → List (DataW H) → Bool := fun _ ds => decide (uptoBulkAll ds ≤ 1048576)
def OpenSpec.upto (s : _root_.Go.ChangeSpec) : _root_.Go.OpenSpec := { _root_.Go.OpenSpec.ofChange s with cond := some uptoSmall }

/-- 'laws.FnExactPartShows', WHERE WHAT IT READS IS OF BULK AT MOST 1048576: true; the input reads as it did. -/
def fnExactPartShowsUptoRow : OpenClaim := { program := "ytlebkepfhdjnmadgreat", sum := "66e4a68a7432339de8db07e66e20324cab3c83d55e686e80dc09bfc4c64aa8f9", func := "loop.example/g00960/laws.FnExactPartShows", spec := "fnExactPartShows", unfollowed := true, recurses := true, apart := false, narrowed := true }
def FnExactPartShowsUptoSaid : Prop := fnExactPartShowsUptoRow.holds Tryz.pinned (OpenSpec.upto fnExactPartShowsSpec)

/-- 'laws.FnExactSquareFor', WHERE WHAT IT READS IS OF BULK AT MOST 1048576: true; the input reads as it did. -/
def fnExactSquareForUptoRow : OpenClaim := { program := "ytlebkepfhdjnmadgreat", sum := "66e4a68a7432339de8db07e66e20324cab3c83d55e686e80dc09bfc4c64aa8f9", func := "loop.example/g00960/laws.FnExactSquareFor", spec := "fnExactSquareFor", unfollowed := true, recurses := true, apart := false, narrowed := true }
def FnExactSquareForUptoSaid : Prop := fnExactSquareForUptoRow.holds Tryz.pinned (OpenSpec.upto fnExactSquareForSpec)

/-- 'laws.FnInOrder', WHERE WHAT IT READS IS OF BULK AT MOST 1048576: true; the input reads as it did. -/
def fnInOrderUptoRow : OpenClaim := { program := "ytlebkepfhdjnmadgreat", sum := "66e4a68a7432339de8db07e66e20324cab3c83d55e686e80dc09bfc4c64aa8f9", func := "loop.example/g00960/laws.FnInOrder", spec := "fnInOrder", apart := false, narrowed := true }
def FnInOrderUptoSaid : Prop := fnInOrderUptoRow.holds Tryz.pinned (OpenSpec.upto fnInOrderSpec)

/-- 'laws.FnPackets', WHERE WHAT IT READS IS OF BULK AT MOST 1048576: true; the input reads as it did. -/
def fnPacketsUptoRow : OpenClaim := { program := "ytlebkepfhdjnmadgreat", sum := "66e4a68a7432339de8db07e66e20324cab3c83d55e686e80dc09bfc4c64aa8f9", func := "loop.example/g00960/laws.FnPackets", spec := "fnPackets", apart := false, narrowed := true }
def FnPacketsUptoSaid : Prop := fnPacketsUptoRow.holds Tryz.pinned (OpenSpec.upto fnPacketsSpec)

end Rows
end Go.Proofs.YtlebkepfhdjnmadGreat
