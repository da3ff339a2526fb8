/-
  No cell of these rows narrows 'for every input' (looked for: loops, veiled, ifaces, maps, wideKeys, modest, calm, conditions, laid).
  DERIVED. THE GIVEN ROWS OF THIS SEAT. 5 by the template 'for every input the law returns true; each argument reads behind the call as it read before'; 0 by the template 'total and deterministic' (their statements: YtlebkepfhdjnmacTotals.lean).
  GIVEN WITH THE SEED: the statements are not yours to turn. If you find one false, say at which input.
  Laid BY PROGRAM, IN A SANDBOX (cutbox-rows.mjs): the forced cells as the released guide's own fill.sh prints them over the translation a80888a9e18d653d… (all of the seat's roots in one cut). By AI agents, Wed Nov 11 2026. No macro, syntax, notation, axiom, sorry.
-/
import Derived.Test.YtlebkepfhdjnmacChecked
import GoSem.Claim
import GoSem.ClaimJoined
import GoSem.ClaimMapViews
import Derived.JoinedTies
import Derived.KernelRfl
namespace Go.Proofs.Ytlebkepfhdjnmac
/- THE CELL 'sum', in the pinned program and in every row, IS THE sha256 OF THE DUMP (.gsa) THAT YtlebkepfhdjnmacProg.lean LOADS. Nothing in Lean hashes anything: it is a label: what it is worth is what the hold of that sum in a sandbox is worth. -/
noncomputable def Try.pinned : Pinned := { name := "ytlebkepfhdjnmac", sum := "a80888a9e18d653d16a847d52c4b5c26df9555518072e0be674fcbe436110300", checked := Try.checked }
namespace Rows
def none {H : Type} : Left H := { results := [], args := [] }

/-- 'laws.FnSquareFor': WHATEVER THE INPUT: true; the input reads as it did. -/
def fnSquareForSpec : ChangeSpec := { name := "fnSquareFor", fn := fun _ => fun
  | [d] => { results := [.lit (.bool true)], args := [d] }
  | _ => none }
def fnSquareForRow : OpenClaim := { program := "ytlebkepfhdjnmac", sum := "a80888a9e18d653d16a847d52c4b5c26df9555518072e0be674fcbe436110300", func := "loop.example/g00960/laws.FnSquareFor", spec := "fnSquareFor", unfollowed := true, recurses := true, apart := false }
def FnSquareForSaid : Prop := fnSquareForRow.holds Try.pinned (OpenSpec.ofChange fnSquareForSpec)

/-- ITS FALSE NEIGHBOUR: 'it returns false'. Refute it at one input. -/
def fnSquareForWrong : ChangeSpec := { name := "fnSquareFor", fn := fun _ => fun
  | [d] => { results := [.lit (.bool false)], args := [d] }
  | _ => none }
def FnSquareForWrongFalsely : Prop := fnSquareForRow.holds Try.pinned (OpenSpec.ofChange fnSquareForWrong)

/-- 'laws.FnStill': WHATEVER THE INPUT: true; the input reads as it did. -/
def fnStillSpec : ChangeSpec := { name := "fnStill", fn := fun _ => fun
  | [d] => { results := [.lit (.bool true)], args := [d] }
  | _ => none }
def fnStillRow : OpenClaim := { program := "ytlebkepfhdjnmac", sum := "a80888a9e18d653d16a847d52c4b5c26df9555518072e0be674fcbe436110300", func := "loop.example/g00960/laws.FnStill", spec := "fnStill", unfollowed := true, recurses := true, apart := false }
def FnStillSaid : Prop := fnStillRow.holds Try.pinned (OpenSpec.ofChange fnStillSpec)

/-- ITS FALSE NEIGHBOUR: 'it returns false'. Refute it at one input. -/
def fnStillWrong : ChangeSpec := { name := "fnStill", fn := fun _ => fun
  | [d] => { results := [.lit (.bool false)], args := [d] }
  | _ => none }
def FnStillWrongFalsely : Prop := fnStillRow.holds Try.pinned (OpenSpec.ofChange fnStillWrong)

/-- 'laws.FnFills': WHATEVER THE INPUT: true; the input reads as it did. -/
def fnFillsSpec : ChangeSpec := { name := "fnFills", fn := fun _ => fun
  | [d] => { results := [.lit (.bool true)], args := [d] }
  | _ => none }
def fnFillsRow : OpenClaim := { program := "ytlebkepfhdjnmac", sum := "a80888a9e18d653d16a847d52c4b5c26df9555518072e0be674fcbe436110300", func := "loop.example/g00960/laws.FnFills", spec := "fnFills", unfollowed := true, recurses := true, apart := false }
def FnFillsSaid : Prop := fnFillsRow.holds Try.pinned (OpenSpec.ofChange fnFillsSpec)

/-- ITS FALSE NEIGHBOUR: 'it returns false'. Refute it at one input. -/
def fnFillsWrong : ChangeSpec := { name := "fnFills", fn := fun _ => fun
  | [d] => { results := [.lit (.bool false)], args := [d] }
  | _ => none }
def FnFillsWrongFalsely : Prop := fnFillsRow.holds Try.pinned (OpenSpec.ofChange fnFillsWrong)

/-- 'laws.FnSends': WHATEVER THE INPUT: true; the input reads as it did. -/
def fnSendsSpec : ChangeSpec := { name := "fnSends", fn := fun _ => fun
  | [d] => { results := [.lit (.bool true)], args := [d] }
  | _ => none }
def fnSendsRow : OpenClaim := { program := "ytlebkepfhdjnmac", sum := "a80888a9e18d653d16a847d52c4b5c26df9555518072e0be674fcbe436110300", func := "loop.example/g00960/laws.FnSends", spec := "fnSends", unfollowed := true, recurses := true, apart := false }
def FnSendsSaid : Prop := fnSendsRow.holds Try.pinned (OpenSpec.ofChange fnSendsSpec)

/-- ITS FALSE NEIGHBOUR: 'it returns false'. Refute it at one input. -/
def fnSendsWrong : ChangeSpec := { name := "fnSends", fn := fun _ => fun
  | [d] => { results := [.lit (.bool false)], args := [d] }
  | _ => none }
def FnSendsWrongFalsely : Prop := fnSendsRow.holds Try.pinned (OpenSpec.ofChange fnSendsWrong)

/-- 'laws.FnExactTileBack': WHATEVER THE INPUT: true; the input reads as it did. -/
def fnExactTileBackSpec : ChangeSpec := { name := "fnExactTileBack", fn := fun _ => fun
  | [d1, d2, d3, d4, d5] => { results := [.lit (.bool true)], args := [d1, d2, d3, d4, d5] }
  | _ => none }
def fnExactTileBackRow : OpenClaim := { program := "ytlebkepfhdjnmac", sum := "a80888a9e18d653d16a847d52c4b5c26df9555518072e0be674fcbe436110300", func := "loop.example/g00960/laws.FnExactTileBack", spec := "fnExactTileBack", unfollowed := true, recurses := true, apart := false }
def FnExactTileBackSaid : Prop := fnExactTileBackRow.holds Try.pinned (OpenSpec.ofChange fnExactTileBackSpec)

/-- ITS FALSE NEIGHBOUR: 'it returns false'. Refute it at one input. -/
def fnExactTileBackWrong : ChangeSpec := { name := "fnExactTileBack", fn := fun _ => fun
  | [d1, d2, d3, d4, d5] => { results := [.lit (.bool false)], args := [d1, d2, d3, d4, d5] }
  | _ => none }
def FnExactTileBackWrongFalsely : Prop := fnExactTileBackRow.holds Try.pinned (OpenSpec.ofChange fnExactTileBackWrong)

/- THE SECOND FORM. 'bulk': how many values and letters a reading holds, each counted each time it is reached (what is shared counts as often as it is met; a slice's spare places count too). A statement '..UptoSaid' is the law's where the arguments, and the package variables that the reading takes, are together of bulk at most 1048576: NARROWER than '..Said'. Prove '..Said' where nothing that the law and all that it calls make is longer than what came in: it says more and counts as full. Else prove '..UptoSaid'. A law counts once. -/
mutual
def uptoBulk {H : Type} : DataW H → Nat
  | .lit (.string bytes) => bytes.length + 1
  | .lit _ => 1
  | .nil => 1
  | .ptr d => uptoBulk d + 1
  | .slice elems spare => uptoBulkAll elems + uptoBulkAll spare + 1
  | .agg parts => uptoBulkAll parts + 1
  | .iface _ d => uptoBulk d + 1
  | .map entries => uptoBulkEntries entries + 1
  | .held _ => 1
def uptoBulkAll {H : Type} : List (DataW H) → Nat
  | [] => 0
  | d :: r => uptoBulk d + uptoBulkAll r
def uptoBulkEntries {H : Type} : List (Lit × DataW H) → Nat
  | [] => 0
  | x :: r => uptoBulkEntry x + uptoBulkEntries r
def uptoBulkEntry {H : Type} : Lit × DataW H → Nat
  | (.string bytes, d) => bytes.length + uptoBulk d + 1
  | (_, d) => uptoBulk d + 1
 end
def uptoSmall : (H : Type) → List (DataW H) → Bool := fun _ ds => decide (uptoBulkAll ds ≤ 1048576)
def OpenSpec.upto (s : _root_.Go.ChangeSpec) : _root_.Go.OpenSpec := { _root_.Go.OpenSpec.ofChange s with cond := some uptoSmall }

/-- 'laws.FnSquareFor', WHERE WHAT IT READS IS OF BULK AT MOST 1048576: true; the input reads as it did. -/
def fnSquareForUptoRow : OpenClaim := { program := "ytlebkepfhdjnmac", sum := "a80888a9e18d653d16a847d52c4b5c26df9555518072e0be674fcbe436110300", func := "loop.example/g00960/laws.FnSquareFor", spec := "fnSquareFor", unfollowed := true, recurses := true, apart := false, narrowed := true }
def FnSquareForUptoSaid : Prop := fnSquareForUptoRow.holds Try.pinned (OpenSpec.upto fnSquareForSpec)

/-- 'laws.FnStill', WHERE WHAT IT READS IS OF BULK AT MOST 1048576: true; the input reads as it did. -/
def fnStillUptoRow : OpenClaim := { program := "ytlebkepfhdjnmac", sum := "a80888a9e18d653d16a847d52c4b5c26df9555518072e0be674fcbe436110300", func := "loop.example/g00960/laws.FnStill", spec := "fnStill", unfollowed := true, recurses := true, apart := false, narrowed := true }
def FnStillUptoSaid : Prop := fnStillUptoRow.holds Try.pinned (OpenSpec.upto fnStillSpec)

/-- 'laws.FnFills', WHERE WHAT IT READS IS OF BULK AT MOST 1048576: true; the input reads as it did. -/
def fnFillsUptoRow : OpenClaim := { program := "ytlebkepfhdjnmac", sum := "a80888a9e18d653d16a847d52c4b5c26df9555518072e0be674fcbe436110300", func := "loop.example/g00960/laws.FnFills", spec := "fnFills", unfollowed := true, recurses := true, apart := false, narrowed := true }
def FnFillsUptoSaid : Prop := fnFillsUptoRow.holds Try.pinned (OpenSpec.upto fnFillsSpec)

/-- 'laws.FnSends', WHERE WHAT IT READS IS OF BULK AT MOST 1048576: true; the input reads as it did. -/
def fnSendsUptoRow : OpenClaim := { program := "ytlebkepfhdjnmac", sum := "a80888a9e18d653d16a847d52c4b5c26df9555518072e0be674fcbe436110300", func := "loop.example/g00960/laws.FnSends", spec := "fnSends", unfollowed := true, recurses := true, apart := false, narrowed := true }
def FnSendsUptoSaid : Prop := fnSendsUptoRow.holds Try.pinned (OpenSpec.upto fnSendsSpec)

/-- 'laws.FnExactTileBack', WHERE WHAT IT READS IS OF BULK AT MOST 1048576: true; the input reads as it did. -/
def fnExactTileBackUptoRow : OpenClaim := { program := "ytlebkepfhdjnmac", sum := "a80888a9e18d653d16a847d52c4b5c26df9555518072e0be674fcbe436110300", func := "loop.example/g00960/laws.FnExactTileBack", spec := "fnExactTileBack", unfollowed := true, recurses := true, apart := false, narrowed := true }
def FnExactTileBackUptoSaid : Prop := fnExactTileBackUptoRow.holds Try.pinned (OpenSpec.upto fnExactTileBackSpec)

end Rows
end Go.Proofs.Ytlebkepfhdjnmac
