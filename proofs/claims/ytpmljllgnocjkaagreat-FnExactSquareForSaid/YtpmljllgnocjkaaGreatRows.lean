/-
  No cell of these rows narrows 'for every input' (looked for: loops, veiled, ifaces, maps, wideKeys, modest, calm, conditions, laid).
  DERIVED. THE GIVEN ROWS OF THIS SEAT. 4 by the template 'for every input the law returns true; each argument reads behind the call as it read before'; 0 by the template 'total and deterministic' (their statements: YtpmljllgnocjkaaGreatTotals.lean).
  GIVEN WITH THE SEED: the statements are not yours to turn. If you find one false, say at which input.
  Laid BY PROGRAM, IN A SANDBOX (cutbox-rows.mjs): the forced cells as the released guide's own fill.sh prints them over the translation f83bdd50c3bcf14a… (all of the seat's roots in one cut). By AI agents, Wed Nov 11 2026. No macro, syntax, notation, axiom, sorry.
-/
import Derived.Test.YtpmljllgnocjkaaGreatChecked
import GoSem.Claim
import GoSem.ClaimJoined
import GoSem.ClaimMapViews
import Derived.JoinedTies
import Derived.KernelRfl
namespace Go.Proofs.YtpmljllgnocjkaaGreat
/- THE CELL 'sum', in the pinned program and in every row, IS THE sha256 OF THE DUMP (.gsa) THAT YtpmljllgnocjkaaGreatProg.lean LOADS. Nothing in Lean hashes anything: it is a label: what it is worth is what the hold of that sum in a sandbox is worth. -/
noncomputable def Tryz.pinned : Pinned := { name := "ytpmljllgnocjkaagreat", sum := "f83bdd50c3bcf14acf47fb47d80271593839cf24959c331e6fc11ac2cd533673", checked := Tryz.checked }
namespace Rows
def none {H : Type} : Left H := { results := [], args := [] }

/-- 'laws.FnExactSquareFor': WHATEVER THE INPUT: true; the input reads as it did. -/
def fnExactSquareForSpec : ChangeSpec := { name := "fnExactSquareFor", fn := fun _ => fun
  | [d1, d2, d3, d4, d5, d6, d7] => { results := [.lit (.bool true)], args := [d1, d2, d3, d4, d5, d6, d7] }
  | _ => none }
def fnExactSquareForRow : OpenClaim := { program := "ytpmljllgnocjkaagreat", sum := "f83bdd50c3bcf14acf47fb47d80271593839cf24959c331e6fc11ac2cd533673", func := "loop.example/g00960/laws.FnExactSquareFor", spec := "fnExactSquareFor", unfollowed := true, recurses := true, apart := false }
def FnExactSquareForSaid : Prop := fnExactSquareForRow.holds Tryz.pinned (OpenSpec.ofChange fnExactSquareForSpec)

/-- ITS FALSE NEIGHBOUR: 'it returns false'. Refute it at one input. -/
def fnExactSquareForWrong : ChangeSpec := { name := "fnExactSquareFor", fn := fun _ => fun
  | [d1, d2, d3, d4, d5, d6, d7] => { results := [.lit (.bool false)], args := [d1, d2, d3, d4, d5, d6, d7] }
  | _ => none }
def FnExactSquareForWrongFalsely : Prop := fnExactSquareForRow.holds Tryz.pinned (OpenSpec.ofChange fnExactSquareForWrong)

/-- 'laws.FnExactTileFor': WHATEVER THE INPUT: true; the input reads as it did. -/
def fnExactTileForSpec : ChangeSpec := { name := "fnExactTileFor", fn := fun _ => fun
  | [d1, d2, d3, d4] => { results := [.lit (.bool true)], args := [d1, d2, d3, d4] }
  | _ => none }
def fnExactTileForRow : OpenClaim := { program := "ytpmljllgnocjkaagreat", sum := "f83bdd50c3bcf14acf47fb47d80271593839cf24959c331e6fc11ac2cd533673", func := "loop.example/g00960/laws.FnExactTileFor", spec := "fnExactTileFor", unfollowed := true, recurses := true, apart := false }
def FnExactTileForSaid : Prop := fnExactTileForRow.holds Tryz.pinned (OpenSpec.ofChange fnExactTileForSpec)

/-- ITS FALSE NEIGHBOUR: 'it returns false'. Refute it at one input. -/
def fnExactTileForWrong : ChangeSpec := { name := "fnExactTileFor", fn := fun _ => fun
  | [d1, d2, d3, d4] => { results := [.lit (.bool false)], args := [d1, d2, d3, d4] }
  | _ => none }
def FnExactTileForWrongFalsely : Prop := fnExactTileForRow.holds Tryz.pinned (OpenSpec.ofChange fnExactTileForWrong)

/-- 'laws.FnExactPartShows': WHATEVER THE INPUT: true; the input reads as it did. -/
def fnExactPartShowsSpec : ChangeSpec := { name := "fnExactPartShows", fn := fun _ => fun
  | [d1, d2, d3, d4] => { results := [.lit (.bool true)], args := [d1, d2, d3, d4] }
  | _ => none }
def fnExactPartShowsRow : OpenClaim := { program := "ytpmljllgnocjkaagreat", sum := "f83bdd50c3bcf14acf47fb47d80271593839cf24959c331e6fc11ac2cd533673", func := "loop.example/g00960/laws.FnExactPartShows", spec := "fnExactPartShows", unfollowed := true, recurses := true, apart := false }
def FnExactPartShowsSaid : Prop := fnExactPartShowsRow.holds Tryz.pinned (OpenSpec.ofChange fnExactPartShowsSpec)

/-- ITS FALSE NEIGHBOUR: 'it returns false'. Refute it at one input. -/
def fnExactPartShowsWrong : ChangeSpec := { name := "fnExactPartShows", fn := fun _ => fun
  | [d1, d2, d3, d4] => { results := [.lit (.bool false)], args := [d1, d2, d3, d4] }
  | _ => none }
def FnExactPartShowsWrongFalsely : Prop := fnExactPartShowsRow.holds Tryz.pinned (OpenSpec.ofChange fnExactPartShowsWrong)

/-- 'laws.FnExactAdmitStep': WHATEVER THE INPUT: true; the input reads as it did. -/
def fnExactAdmitStepSpec : ChangeSpec := { name := "fnExactAdmitStep", fn := fun _ => fun
  | [d1, d2, d3] => { results := [.lit (.bool true)], args := [d1, d2, d3] }
  | _ => none }
def fnExactAdmitStepRow : OpenClaim := { program := "ytpmljllgnocjkaagreat", sum := "f83bdd50c3bcf14acf47fb47d80271593839cf24959c331e6fc11ac2cd533673", func := "loop.example/g00960/laws.FnExactAdmitStep", spec := "fnExactAdmitStep", apart := false }
def FnExactAdmitStepSaid : Prop := fnExactAdmitStepRow.holds Tryz.pinned (OpenSpec.ofChange fnExactAdmitStepSpec)

/-- ITS FALSE NEIGHBOUR: 'it returns false'. Refute it at one input. -/
def fnExactAdmitStepWrong : ChangeSpec := { name := "fnExactAdmitStep", fn := fun _ => fun
  | [d1, d2, d3] => { results := [.lit (.bool false)], args := [d1, d2, d3] }
  | _ => none }
def FnExactAdmitStepWrongFalsely : Prop := fnExactAdmitStepRow.holds Tryz.pinned (OpenSpec.ofChange fnExactAdmitStepWrong)

/- THE SECOND FORM. 'bulk': how many values and letters a reading holds, each counted each time it is reached (what is shared counts as often as it is met; a slice's spare places count too). A statement '..UptoSaid' is the law's where the arguments, and the package variables that the reading takes, are together of bulk at most 1048576: NARROWER than '..Said'. Prove '..Said' where nothing that the law and all that it calls make is longer than what came in: it says more and counts as full. Else prove '..UptoSaid'. A law counts once. -/
mutual
def uptoBulk {H : Type} : DataW H → Nat
  | .lit (.string bytes) => bytes.length + 1
  | .lit _ => 1
  | .nil => 1
  | .ptr d => uptoBulk d + 1
  | .slice elems spare => uptoBulkAll elems + uptoBulkAll spare + 1
  | .agg parts => uptoBulkAll parts + 1
  | .iface _ d => uptoBulk d + 1
  | .map entries => uptoBulkEntries entries + 1
  | .held _ => 1
def uptoBulkAll {H : Type} : List (DataW H) → Nat
  | [] => 0
  | d :: r => uptoBulk d + uptoBulkAll r
def uptoBulkEntries {H : Type} : List (Lit × DataW H) → Nat
  | [] => 0
  | x :: r => uptoBulkEntry x + uptoBulkEntries r
def uptoBulkEntry {H : Type} : Lit × DataW H → Nat
  | (.string bytes, d) => bytes.length + uptoBulk d + 1
  | (_, d) => uptoBulk d + 1
 end
def uptoSmall : (H : Type) → List (DataW H) → Bool := fun _ ds => decide (uptoBulkAll ds ≤ 1048576)
def OpenSpec.upto (s : _root_.Go.ChangeSpec) : _root_.Go.OpenSpec := { _root_.Go.OpenSpec.ofChange s with cond := some uptoSmall }

/-- 'laws.FnExactSquareFor', WHERE WHAT IT READS IS OF BULK AT MOST 1048576: true; the input reads as it did. -/
def fnExactSquareForUptoRow : OpenClaim := { program := "ytpmljllgnocjkaagreat", sum := "f83bdd50c3bcf14acf47fb47d80271593839cf24959c331e6fc11ac2cd533673", func := "loop.example/g00960/laws.FnExactSquareFor", spec := "fnExactSquareFor", unfollowed := true, recurses := true, apart := false, narrowed := true }
def FnExactSquareForUptoSaid : Prop := fnExactSquareForUptoRow.holds Tryz.pinned (OpenSpec.upto fnExactSquareForSpec)

/-- 'laws.FnExactTileFor', WHERE WHAT IT READS IS OF BULK AT MOST 1048576: true; the input reads as it did. -/
def fnExactTileForUptoRow : OpenClaim := { program := "ytpmljllgnocjkaagreat", sum := "f83bdd50c3bcf14acf47fb47d80271593839cf24959c331e6fc11ac2cd533673", func := "loop.example/g00960/laws.FnExactTileFor", spec := "fnExactTileFor", unfollowed := true, recurses := true, apart := false, narrowed := true }
def FnExactTileForUptoSaid : Prop := fnExactTileForUptoRow.holds Tryz.pinned (OpenSpec.upto fnExactTileForSpec)

/-- 'laws.FnExactPartShows', WHERE WHAT IT READS IS OF BULK AT MOST 1048576: true; the input reads as it did. -/
def fnExactPartShowsUptoRow : OpenClaim := { program := "ytpmljllgnocjkaagreat", sum := "f83bdd50c3bcf14acf47fb47d80271593839cf24959c331e6fc11ac2cd533673", func := "loop.example/g00960/laws.FnExactPartShows", spec := "fnExactPartShows", unfollowed := true, recurses := true, apart := false, narrowed := true }
def FnExactPartShowsUptoSaid : Prop := fnExactPartShowsUptoRow.holds Tryz.pinned (OpenSpec.upto fnExactPartShowsSpec)

/-- 'laws.FnExactAdmitStep', WHERE WHAT IT READS IS OF BULK AT MOST 1048576: true; the input reads as it did. -/
def fnExactAdmitStepUptoRow : OpenClaim := { program := "ytpmljllgnocjkaagreat", sum := "f83bdd50c3bcf14acf47fb47d80271593839cf24959c331e6fc11ac2cd533673", func := "loop.example/g00960/laws.FnExactAdmitStep", spec := "fnExactAdmitStep", apart := false, narrowed := true }
def FnExactAdmitStepUptoSaid : Prop := fnExactAdmitStepUptoRow.holds Tryz.pinned (OpenSpec.upto fnExactAdmitStepSpec)

end Rows
end Go.Proofs.YtpmljllgnocjkaaGreat
