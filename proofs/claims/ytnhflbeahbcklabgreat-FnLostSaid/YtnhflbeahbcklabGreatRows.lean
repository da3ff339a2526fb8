/-
  No cell of these rows narrows 'for every input' (looked for: loops, veiled, ifaces, maps, wideKeys, modest, calm, conditions, laid).
  DERIVED. THE GIVEN ROWS OF THIS SEAT. 4 by the template 'for every input the law returns true; each argument reads behind the call as it read before'; 0 by the template 'total and deterministic' (their statements: YtnhflbeahbcklabGreatTotals.lean).
  GIVEN WITH THE SEED: the statements are not yours to turn. If you find one false, say at which input.
  Laid BY PROGRAM, IN A SANDBOX (cutbox-rows.mjs): the forced cells as the released guide's own fill.sh prints them over the translation 3f6fefe63c61c248… (all of the seat's roots in one cut). By AI agents, Wed Nov 11 2026. No macro, syntax, notation, axiom, sorry.
-/
import Derived.Test.YtnhflbeahbcklabGreatChecked
import GoSem.Claim
import GoSem.ClaimJoined
import GoSem.ClaimMapViews
import Derived.JoinedTies
import Derived.KernelRfl
namespace Go.Proofs.YtnhflbeahbcklabGreat
/- THE CELL 'sum', in the pinned program and in every row, IS THE sha256 OF THE DUMP (.gsa) THAT YtnhflbeahbcklabGreatProg.lean LOADS. Nothing in Lean hashes anything: it is a label: what it is worth is what the hold of that sum in a sandbox is worth. -/
noncomputable def Tryz.pinned : Pinned := { name := "ytnhflbeahbcklabgreat", sum := "3f6fefe63c61c248ac993d494c889386ebe98320985e830c2266e9cf3ca8ecca", checked := Tryz.checked }
namespace Rows
def none {H : Type} : Left H := { results := [], args := [] }

/-- 'laws.FnStreams': WHATEVER THE INPUT: true; the input reads as it did. -/
def fnStreamsSpec : ChangeSpec := { name := "fnStreams", fn := fun _ => fun
  | [d] => { results := [.lit (.bool true)], args := [d] }
  | _ => none }
def fnStreamsRow : OpenClaim := { program := "ytnhflbeahbcklabgreat", sum := "3f6fefe63c61c248ac993d494c889386ebe98320985e830c2266e9cf3ca8ecca", func := "loop.example/g00960/laws.FnStreams", spec := "fnStreams", unfollowed := true, recurses := true, apart := false }
def FnStreamsSaid : Prop := fnStreamsRow.holds Tryz.pinned (OpenSpec.ofChange fnStreamsSpec)

/-- ITS FALSE NEIGHBOUR: 'it returns false'. Refute it at one input. -/
def fnStreamsWrong : ChangeSpec := { name := "fnStreams", fn := fun _ => fun
  | [d] => { results := [.lit (.bool false)], args := [d] }
  | _ => none }
def FnStreamsWrongFalsely : Prop := fnStreamsRow.holds Tryz.pinned (OpenSpec.ofChange fnStreamsWrong)

/-- 'laws.FnLost': WHATEVER THE INPUT: true; the input reads as it did. -/
def fnLostSpec : ChangeSpec := { name := "fnLost", fn := fun _ => fun
  | [d] => { results := [.lit (.bool true)], args := [d] }
  | _ => none }
def fnLostRow : OpenClaim := { program := "ytnhflbeahbcklabgreat", sum := "3f6fefe63c61c248ac993d494c889386ebe98320985e830c2266e9cf3ca8ecca", func := "loop.example/g00960/laws.FnLost", spec := "fnLost", unfollowed := true, recurses := true, apart := false }
def FnLostSaid : Prop := fnLostRow.holds Tryz.pinned (OpenSpec.ofChange fnLostSpec)

/-- ITS FALSE NEIGHBOUR: 'it returns false'. Refute it at one input. -/
def fnLostWrong : ChangeSpec := { name := "fnLost", fn := fun _ => fun
  | [d] => { results := [.lit (.bool false)], args := [d] }
  | _ => none }
def FnLostWrongFalsely : Prop := fnLostRow.holds Tryz.pinned (OpenSpec.ofChange fnLostWrong)

/-- 'laws.FnExactSourceStep': WHATEVER THE INPUT: true; the input reads as it did. -/
def fnExactSourceStepSpec : ChangeSpec := { name := "fnExactSourceStep", fn := fun _ => fun
  | [d1, d2, d3] => { results := [.lit (.bool true)], args := [d1, d2, d3] }
  | _ => none }
def fnExactSourceStepRow : OpenClaim := { program := "ytnhflbeahbcklabgreat", sum := "3f6fefe63c61c248ac993d494c889386ebe98320985e830c2266e9cf3ca8ecca", func := "loop.example/g00960/laws.FnExactSourceStep", spec := "fnExactSourceStep", unfollowed := true, recurses := true, apart := false }
def FnExactSourceStepSaid : Prop := fnExactSourceStepRow.holds Tryz.pinned (OpenSpec.ofChange fnExactSourceStepSpec)

/-- ITS FALSE NEIGHBOUR: 'it returns false'. Refute it at one input. -/
def fnExactSourceStepWrong : ChangeSpec := { name := "fnExactSourceStep", fn := fun _ => fun
  | [d1, d2, d3] => { results := [.lit (.bool false)], args := [d1, d2, d3] }
  | _ => none }
def FnExactSourceStepWrongFalsely : Prop := fnExactSourceStepRow.holds Tryz.pinned (OpenSpec.ofChange fnExactSourceStepWrong)

/-- 'laws.FnExactAdmitStep': WHATEVER THE INPUT: true; the input reads as it did. -/
def fnExactAdmitStepSpec : ChangeSpec := { name := "fnExactAdmitStep", fn := fun _ => fun
  | [d1, d2, d3] => { results := [.lit (.bool true)], args := [d1, d2, d3] }
  | _ => none }
def fnExactAdmitStepRow : OpenClaim := { program := "ytnhflbeahbcklabgreat", sum := "3f6fefe63c61c248ac993d494c889386ebe98320985e830c2266e9cf3ca8ecca", func := "loop.example/g00960/laws.FnExactAdmitStep", spec := "fnExactAdmitStep", apart := false }
def FnExactAdmitStepSaid : Prop := fnExactAdmitStepRow.holds Tryz.pinned (OpenSpec.ofChange fnExactAdmitStepSpec)

/-- ITS FALSE NEIGHBOUR: 'it returns false'. Refute it at one input. -/
def fnExactAdmitStepWrong : ChangeSpec := { name := "fnExactAdmitStep", fn := fun _ => fun
  | [d1, d2, d3] => { results := [.lit (.bool false)], args := [d1, d2, d3] }
  | _ => none }
def FnExactAdmitStepWrongFalsely : Prop := fnExactAdmitStepRow.holds Tryz.pinned (OpenSpec.ofChange fnExactAdmitStepWrong)

/- THE SECOND FORM. 'bulk': how many values and letters a reading holds, each counted each time it is reached (what is shared counts as often as it is met; a slice's spare places count too). A statement '..UptoSaid' is the law's where the arguments, and the package variables that the reading takes, are together of bulk at most 1048576: NARROWER than '..Said'. Prove '..Said' where nothing that the law and all that it calls make is longer than what came in: it says more and counts as full. Else prove '..UptoSaid'. A law counts once. -/
mutual
def uptoBulk {H : Type} : DataW H → Nat
  | .lit (.string bytes) => bytes.length + 1
  | .lit _ => 1
  | .nil => 1
  | .ptr d => uptoBulk d + 1
  | .slice elems spare => uptoBulkAll elems + uptoBulkAll spare + 1
  | .agg parts => uptoBulkAll parts + 1
  | .iface _ d => uptoBulk d + 1
  | .map entries => uptoBulkEntries entries + 1
  | .held _ => 1
def uptoBulkAll {H : Type} : List (DataW H) → Nat
  | [] => 0
  | d :: r => uptoBulk d + uptoBulkAll r
def uptoBulkEntries {H : Type} : List (Lit × DataW H) → Nat
  | [] => 0
  | x :: r => uptoBulkEntry x + uptoBulkEntries r
def uptoBulkEntry {H : Type} : Lit × DataW H → Nat
  | (.string bytes, d) => bytes.length + uptoBulk d + 1
  | (_, d) => uptoBulk d + 1
 end
def uptoSmall : (H : Type) → List (DataW H) → Bool := fun _ ds => decide (uptoBulkAll ds ≤ 1048576)
def OpenSpec.upto (s : _root_.Go.ChangeSpec) : _root_.Go.OpenSpec := { _root_.Go.OpenSpec.ofChange s with cond := some uptoSmall }

/-- 'laws.FnStreams', WHERE WHAT IT READS IS OF BULK AT MOST 1048576: true; the input reads as it did. -/
def fnStreamsUptoRow : OpenClaim := { program := "ytnhflbeahbcklabgreat", sum := "3f6fefe63c61c248ac993d494c889386ebe98320985e830c2266e9cf3ca8ecca", func := "loop.example/g00960/laws.FnStreams", spec := "fnStreams", unfollowed := true, recurses := true, apart := false, narrowed := true }
def FnStreamsUptoSaid : Prop := fnStreamsUptoRow.holds Tryz.pinned (OpenSpec.upto fnStreamsSpec)

/-- 'laws.FnLost', WHERE WHAT IT READS IS OF BULK AT MOST 1048576: true; the input reads as it did. -/
def fnLostUptoRow : OpenClaim := { program := "ytnhflbeahbcklabgreat", sum := "3f6fefe63c61c248ac993d494c889386ebe98320985e830c2266e9cf3ca8ecca", func := "loop.example/g00960/laws.FnLost", spec := "fnLost", unfollowed := true, recurses := true, apart := false, narrowed := true }
def FnLostUptoSaid : Prop := fnLostUptoRow.holds Tryz.pinned (OpenSpec.upto fnLostSpec)

/-- 'laws.FnExactSourceStep', WHERE WHAT IT READS IS OF BULK AT MOST 1048576: true; the input reads as it did. -/
def fnExactSourceStepUptoRow : OpenClaim := { program := "ytnhflbeahbcklabgreat", sum := "3f6fefe63c61c248ac993d494c889386ebe98320985e830c2266e9cf3ca8ecca", func := "loop.example/g00960/laws.FnExactSourceStep", spec := "fnExactSourceStep", unfollowed := true, recurses := true, apart := false, narrowed := true }
def FnExactSourceStepUptoSaid : Prop := fnExactSourceStepUptoRow.holds Tryz.pinned (OpenSpec.upto fnExactSourceStepSpec)

/-- 'laws.FnExactAdmitStep', WHERE WHAT IT READS IS OF BULK AT MOST 1048576: true; the input reads as it did. -/
def fnExactAdmitStepUptoRow : OpenClaim := { program := "ytnhflbeahbcklabgreat", sum := "3f6fefe63c61c248ac993d494c889386ebe98320985e830c2266e9cf3ca8ecca", func := "loop.example/g00960/laws.FnExactAdmitStep", spec := "fnExactAdmitStep", apart := false, narrowed := true }
def FnExactAdmitStepUptoSaid : Prop := fnExactAdmitStepUptoRow.holds Tryz.pinned (OpenSpec.upto fnExactAdmitStepSpec)

end Rows
end Go.Proofs.YtnhflbeahbcklabGreat
