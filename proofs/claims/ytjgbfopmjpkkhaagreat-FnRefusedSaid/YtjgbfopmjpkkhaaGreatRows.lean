/-
  No cell of these rows narrows 'for every input' (looked for: loops, veiled, ifaces, maps, wideKeys, modest, calm, conditions, laid).
  DERIVED. THE GIVEN ROWS OF THIS SEAT. 4 by the template 'for every input the law returns true; each argument reads behind the call as it read before'; 0 by the template 'total and deterministic' (their statements: YtjgbfopmjpkkhaaGreatTotals.lean).
  GIVEN WITH THE SEED: the statements are not yours to turn. If you find one false, say at which input.
  Laid BY PROGRAM, IN A SANDBOX (cutbox-rows.mjs): the forced cells as the released guide's own fill.sh prints them over the translation 62355cde9f660e61… (all of the seat's roots in one cut). By AI agents, Wed Nov 11 2026. No macro, syntax, notation, axiom, sorry.
-/
import Derived.Test.YtjgbfopmjpkkhaaGreatChecked
import GoSem.Claim
import GoSem.ClaimJoined
import GoSem.ClaimMapViews
import Derived.JoinedTies
import Derived.KernelRfl
namespace Go.Proofs.YtjgbfopmjpkkhaaGreat
/- THE CELL 'sum', in the pinned program and in every row, IS THE sha256 OF THE DUMP (.gsa) THAT YtjgbfopmjpkkhaaGreatProg.lean LOADS. Nothing in Lean hashes anything: it is a label: what it is worth is what the hold of that sum in a sandbox is worth. -/
noncomputable def Tryz.pinned : Pinned := { name := "ytjgbfopmjpkkhaagreat", sum := "62355cde9f660e61f867ae7689ff917d6e7acd8635f0ec3a29008229e3615219", checked := Tryz.checked }
namespace Rows
def none {H : Type} : Left H := { results := [], args := [] }

/-- 'laws.FnExactDecStep': WHATEVER THE INPUT: true; the input reads as it did. -/
def fnExactDecStepSpec : ChangeSpec := { name := "fnExactDecStep", fn := fun _ => fun
  | [d1, d2] => { results := [.lit (.bool true)], args := [d1, d2] }
  | _ => none }
def fnExactDecStepRow : OpenClaim := { program := "ytjgbfopmjpkkhaagreat", sum := "62355cde9f660e61f867ae7689ff917d6e7acd8635f0ec3a29008229e3615219", func := "loop.example/g00960/laws.FnExactDecStep", spec := "fnExactDecStep", unfollowed := true, recurses := true, apart := false }
def FnExactDecStepSaid : Prop := fnExactDecStepRow.holds Tryz.pinned (OpenSpec.ofChange fnExactDecStepSpec)

/-- ITS FALSE NEIGHBOUR: 'it returns false'. Refute it at one input. -/
def fnExactDecStepWrong : ChangeSpec := { name := "fnExactDecStep", fn := fun _ => fun
  | [d1, d2] => { results := [.lit (.bool false)], args := [d1, d2] }
  | _ => none }
def FnExactDecStepWrongFalsely : Prop := fnExactDecStepRow.holds Tryz.pinned (OpenSpec.ofChange fnExactDecStepWrong)

/-- 'laws.FnExactDecStream': WHATEVER THE INPUT: true; the input reads as it did. -/
def fnExactDecStreamSpec : ChangeSpec := { name := "fnExactDecStream", fn := fun _ => fun
  | [d] => { results := [.lit (.bool true)], args := [d] }
  | _ => none }
def fnExactDecStreamRow : OpenClaim := { program := "ytjgbfopmjpkkhaagreat", sum := "62355cde9f660e61f867ae7689ff917d6e7acd8635f0ec3a29008229e3615219", func := "loop.example/g00960/laws.FnExactDecStream", spec := "fnExactDecStream", unfollowed := true, recurses := true, apart := false }
def FnExactDecStreamSaid : Prop := fnExactDecStreamRow.holds Tryz.pinned (OpenSpec.ofChange fnExactDecStreamSpec)

/-- ITS FALSE NEIGHBOUR: 'it returns false'. Refute it at one input. -/
def fnExactDecStreamWrong : ChangeSpec := { name := "fnExactDecStream", fn := fun _ => fun
  | [d] => { results := [.lit (.bool false)], args := [d] }
  | _ => none }
def FnExactDecStreamWrongFalsely : Prop := fnExactDecStreamRow.holds Tryz.pinned (OpenSpec.ofChange fnExactDecStreamWrong)

/-- 'laws.FnExactDecAll': WHATEVER THE INPUT: true; the input reads as it did. -/
def fnExactDecAllSpec : ChangeSpec := { name := "fnExactDecAll", fn := fun _ => fun
  | [d1, d2] => { results := [.lit (.bool true)], args := [d1, d2] }
  | _ => none }
def fnExactDecAllRow : OpenClaim := { program := "ytjgbfopmjpkkhaagreat", sum := "62355cde9f660e61f867ae7689ff917d6e7acd8635f0ec3a29008229e3615219", func := "loop.example/g00960/laws.FnExactDecAll", spec := "fnExactDecAll", unfollowed := true, recurses := true, apart := false }
def FnExactDecAllSaid : Prop := fnExactDecAllRow.holds Tryz.pinned (OpenSpec.ofChange fnExactDecAllSpec)

/-- ITS FALSE NEIGHBOUR: 'it returns false'. Refute it at one input. -/
def fnExactDecAllWrong : ChangeSpec := { name := "fnExactDecAll", fn := fun _ => fun
  | [d1, d2] => { results := [.lit (.bool false)], args := [d1, d2] }
  | _ => none }
def FnExactDecAllWrongFalsely : Prop := fnExactDecAllRow.holds Tryz.pinned (OpenSpec.ofChange fnExactDecAllWrong)

/-- 'laws.FnRefused': WHATEVER THE INPUT: true; the input reads as it did. -/
def fnRefusedSpec : ChangeSpec := { name := "fnRefused", fn := fun _ => fun
  | [d] => { results := [.lit (.bool true)], args := [d] }
  | _ => none }
def fnRefusedRow : OpenClaim := { program := "ytjgbfopmjpkkhaagreat", sum := "62355cde9f660e61f867ae7689ff917d6e7acd8635f0ec3a29008229e3615219", func := "loop.example/g00960/laws.FnRefused", spec := "fnRefused", unfollowed := true, recurses := true, apart := false }
def FnRefusedSaid : Prop := fnRefusedRow.holds Tryz.pinned (OpenSpec.ofChange fnRefusedSpec)

/-- ITS FALSE NEIGHBOUR: 'it returns false'. Refute it at one input. -/
def fnRefusedWrong : ChangeSpec := { name := "fnRefused", fn := fun _ => fun
  | [d] => { results := [.lit (.bool false)], args := [d] }
  | _ => none }
def FnRefusedWrongFalsely : Prop := fnRefusedRow.holds Tryz.pinned (OpenSpec.ofChange fnRefusedWrong)

/- THE SECOND FORM. 'bulk': how many values and letters a reading holds, each counted each time it is reached (what is shared counts as often as it is met; a slice's spare places count too). A statement '..UptoSaid' is the law's where the arguments, and the package variables that the reading takes, are together of bulk at most 1048576: NARROWER than '..Said'. Prove '..Said' where nothing that the law and all that it calls make is longer than what came in: it says more and counts as full. Else prove '..UptoSaid'. A law counts once. -/
mutual
def uptoBulk {H : Type} : DataW H → Nat
  | .lit (.string bytes) => bytes.length + 1
  | .lit _ => 1
  | .nil => 1
  | .ptr d => uptoBulk d + 1
  | .slice elems spare => uptoBulkAll elems + uptoBulkAll spare + 1
  | .agg parts => uptoBulkAll parts + 1
  | .iface _ d => uptoBulk d + 1
  | .map entries => uptoBulkEntries entries + 1
  | .held _ => 1
def uptoBulkAll {H : Type} : List (DataW H) → Nat
  | [] => 0
  | d :: r => uptoBulk d + uptoBulkAll r
def uptoBulkEntries {H : Type} : List (Lit × DataW H) → Nat
  | [] => 0
  | x :: r => uptoBulkEntry x + uptoBulkEntries r
def uptoBulkEntry {H : Type} : Lit × DataW H → Nat
  | (.string bytes, d) => bytes.length + uptoBulk d + 1
  | (_, d) => uptoBulk d + 1
 end
def uptoSmall : (H : Type) → List (DataW H) → Bool := fun _ ds => decide (uptoBulkAll ds ≤ 1048576)
def OpenSpec.upto (s : _root_.Go.ChangeSpec) : _root_.Go.OpenSpec := { _root_.Go.OpenSpec.ofChange s with cond := some uptoSmall }

/-- 'laws.FnExactDecStep', WHERE WHAT IT READS IS OF BULK AT MOST 1048576: true; the input reads as it did. -/
def fnExactDecStepUptoRow : OpenClaim := { program := "ytjgbfopmjpkkhaagreat", sum := "62355cde9f660e61f867ae7689ff917d6e7acd8635f0ec3a29008229e3615219", func := "loop.example/g00960/laws.FnExactDecStep", spec := "fnExactDecStep", unfollowed := true, recurses := true, apart := false, narrowed := true }
def FnExactDecStepUptoSaid : Prop := fnExactDecStepUptoRow.holds Tryz.pinned (OpenSpec.upto fnExactDecStepSpec)

/-- 'laws.FnExactDecStream', WHERE WHAT IT READS IS OF BULK AT MOST 1048576: true; the input reads as it did. -/
def fnExactDecStreamUptoRow : OpenClaim := { program := "ytjgbfopmjpkkhaagreat", sum := "62355cde9f660e61f867ae7689ff917d6e7acd8635f0ec3a29008229e3615219", func := "loop.example/g00960/laws.FnExactDecStream", spec := "fnExactDecStream", unfollowed := true, recurses := true, apart := false, narrowed := true }
def FnExactDecStreamUptoSaid : Prop := fnExactDecStreamUptoRow.holds Tryz.pinned (OpenSpec.upto fnExactDecStreamSpec)

/-- 'laws.FnExactDecAll', WHERE WHAT IT READS IS OF BULK AT MOST 1048576: true; the input reads as it did. -/
def fnExactDecAllUptoRow : OpenClaim := { program := "ytjgbfopmjpkkhaagreat", sum := "62355cde9f660e61f867ae7689ff917d6e7acd8635f0ec3a29008229e3615219", func := "loop.example/g00960/laws.FnExactDecAll", spec := "fnExactDecAll", unfollowed := true, recurses := true, apart := false, narrowed := true }
def FnExactDecAllUptoSaid : Prop := fnExactDecAllUptoRow.holds Tryz.pinned (OpenSpec.upto fnExactDecAllSpec)

/-- 'laws.FnRefused', WHERE WHAT IT READS IS OF BULK AT MOST 1048576: true; the input reads as it did. -/
def fnRefusedUptoRow : OpenClaim := { program := "ytjgbfopmjpkkhaagreat", sum := "62355cde9f660e61f867ae7689ff917d6e7acd8635f0ec3a29008229e3615219", func := "loop.example/g00960/laws.FnRefused", spec := "fnRefused", unfollowed := true, recurses := true, apart := false, narrowed := true }
def FnRefusedUptoSaid : Prop := fnRefusedUptoRow.holds Tryz.pinned (OpenSpec.upto fnRefusedSpec)

end Rows
end Go.Proofs.YtjgbfopmjpkkhaaGreat
