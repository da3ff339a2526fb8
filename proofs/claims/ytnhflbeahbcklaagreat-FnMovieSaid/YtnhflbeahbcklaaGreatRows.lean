/-
  No cell of these rows narrows 'for every input' (looked for: loops, veiled, ifaces, maps, wideKeys, modest, calm, conditions, laid).
  DERIVED. THE GIVEN ROWS OF THIS SEAT. 5 by the template 'for every input the law returns true; each argument reads behind the call as it read before'; 0 by the template 'total and deterministic' (their statements: YtnhflbeahbcklaaGreatTotals.lean).
  GIVEN WITH THE SEED: the statements are not yours to turn. If you find one false, say at which input.
  Laid BY PROGRAM, IN A SANDBOX (cutbox-rows.mjs): the forced cells as the released guide's own fill.sh prints them over the translation 885c30207724a776… (all of the seat's roots in one cut). By AI agents, Wed Nov 11 2026. No macro, syntax, notation, axiom, sorry.
-/
import Derived.Test.YtnhflbeahbcklaaGreatChecked
import GoSem.Claim
import GoSem.ClaimJoined
import GoSem.ClaimMapViews
import Derived.JoinedTies
import Derived.KernelRfl
namespace Go.Proofs.YtnhflbeahbcklaaGreat
/- THE CELL 'sum', in the pinned program and in every row, IS THE sha256 OF THE DUMP (.gsa) THAT YtnhflbeahbcklaaGreatProg.lean LOADS. Nothing in Lean hashes anything: it is a label: what it is worth is what the hold of that sum in a sandbox is worth. -/
noncomputable def Tryz.pinned : Pinned := { name := "ytnhflbeahbcklaagreat", sum := "885c30207724a7760fbaeaf79057047ee182d29b47d2219312f0d0bb259d0876", checked := Tryz.checked }
namespace Rows
def none {H : Type} : Left H := { results := [], args := [] }

/-- 'laws.FnSplit': WHATEVER THE INPUT: true; the input reads as it did. -/
def fnSplitSpec : ChangeSpec := { name := "fnSplit", fn := fun _ => fun
  | [d] => { results := [.lit (.bool true)], args := [d] }
  | _ => none }
def fnSplitRow : OpenClaim := { program := "ytnhflbeahbcklaagreat", sum := "885c30207724a7760fbaeaf79057047ee182d29b47d2219312f0d0bb259d0876", func := "loop.example/g00960/laws.FnSplit", spec := "fnSplit", unfollowed := true, recurses := true, apart := false }
def FnSplitSaid : Prop := fnSplitRow.holds Tryz.pinned (OpenSpec.ofChange fnSplitSpec)

/-- ITS FALSE NEIGHBOUR: 'it returns false'. Refute it at one input. -/
def fnSplitWrong : ChangeSpec := { name := "fnSplit", fn := fun _ => fun
  | [d] => { results := [.lit (.bool false)], args := [d] }
  | _ => none }
def FnSplitWrongFalsely : Prop := fnSplitRow.holds Tryz.pinned (OpenSpec.ofChange fnSplitWrong)

/-- 'laws.FnMovie': WHATEVER THE INPUT: true; the input reads as it did. -/
def fnMovieSpec : ChangeSpec := { name := "fnMovie", fn := fun _ => fun
  | [d] => { results := [.lit (.bool true)], args := [d] }
  | _ => none }
def fnMovieRow : OpenClaim := { program := "ytnhflbeahbcklaagreat", sum := "885c30207724a7760fbaeaf79057047ee182d29b47d2219312f0d0bb259d0876", func := "loop.example/g00960/laws.FnMovie", spec := "fnMovie", unfollowed := true, recurses := true, apart := false }
def FnMovieSaid : Prop := fnMovieRow.holds Tryz.pinned (OpenSpec.ofChange fnMovieSpec)

/-- ITS FALSE NEIGHBOUR: 'it returns false'. Refute it at one input. -/
def fnMovieWrong : ChangeSpec := { name := "fnMovie", fn := fun _ => fun
  | [d] => { results := [.lit (.bool false)], args := [d] }
  | _ => none }
def FnMovieWrongFalsely : Prop := fnMovieRow.holds Tryz.pinned (OpenSpec.ofChange fnMovieWrong)

/-- 'laws.FnAdmits': WHATEVER THE INPUT: true; the input reads as it did. -/
def fnAdmitsSpec : ChangeSpec := { name := "fnAdmits", fn := fun _ => fun
  | [d] => { results := [.lit (.bool true)], args := [d] }
  | _ => none }
def fnAdmitsRow : OpenClaim := { program := "ytnhflbeahbcklaagreat", sum := "885c30207724a7760fbaeaf79057047ee182d29b47d2219312f0d0bb259d0876", func := "loop.example/g00960/laws.FnAdmits", spec := "fnAdmits", unfollowed := true, recurses := true, apart := false }
def FnAdmitsSaid : Prop := fnAdmitsRow.holds Tryz.pinned (OpenSpec.ofChange fnAdmitsSpec)

/-- ITS FALSE NEIGHBOUR: 'it returns false'. Refute it at one input. -/
def fnAdmitsWrong : ChangeSpec := { name := "fnAdmits", fn := fun _ => fun
  | [d] => { results := [.lit (.bool false)], args := [d] }
  | _ => none }
def FnAdmitsWrongFalsely : Prop := fnAdmitsRow.holds Tryz.pinned (OpenSpec.ofChange fnAdmitsWrong)

/-- 'laws.FnAfterGap': WHATEVER THE INPUT: true; the input reads as it did. -/
def fnAfterGapSpec : ChangeSpec := { name := "fnAfterGap", fn := fun _ => fun
  | [d] => { results := [.lit (.bool true)], args := [d] }
  | _ => none }
def fnAfterGapRow : OpenClaim := { program := "ytnhflbeahbcklaagreat", sum := "885c30207724a7760fbaeaf79057047ee182d29b47d2219312f0d0bb259d0876", func := "loop.example/g00960/laws.FnAfterGap", spec := "fnAfterGap", unfollowed := true, recurses := true, apart := false }
def FnAfterGapSaid : Prop := fnAfterGapRow.holds Tryz.pinned (OpenSpec.ofChange fnAfterGapSpec)

/-- ITS FALSE NEIGHBOUR: 'it returns false'. Refute it at one input. -/
def fnAfterGapWrong : ChangeSpec := { name := "fnAfterGap", fn := fun _ => fun
  | [d] => { results := [.lit (.bool false)], args := [d] }
  | _ => none }
def FnAfterGapWrongFalsely : Prop := fnAfterGapRow.holds Tryz.pinned (OpenSpec.ofChange fnAfterGapWrong)

/-- 'laws.FnSource': WHATEVER THE INPUT: true; the input reads as it did. -/
def fnSourceSpec : ChangeSpec := { name := "fnSource", fn := fun _ => fun
  | [d] => { results := [.lit (.bool true)], args := [d] }
  | _ => none }
def fnSourceRow : OpenClaim := { program := "ytnhflbeahbcklaagreat", sum := "885c30207724a7760fbaeaf79057047ee182d29b47d2219312f0d0bb259d0876", func := "loop.example/g00960/laws.FnSource", spec := "fnSource", unfollowed := true, recurses := true, apart := false }
def FnSourceSaid : Prop := fnSourceRow.holds Tryz.pinned (OpenSpec.ofChange fnSourceSpec)

/-- ITS FALSE NEIGHBOUR: 'it returns false'. Refute it at one input. -/
def fnSourceWrong : ChangeSpec := { name := "fnSource", fn := fun _ => fun
  | [d] => { results := [.lit (.bool false)], args := [d] }
  | _ => none }
def FnSourceWrongFalsely : Prop := fnSourceRow.holds Tryz.pinned (OpenSpec.ofChange fnSourceWrong)

/- THE SECOND FORM. 'bulk': how many values and letters a reading holds, each counted each time it is reached (what is shared counts as often as it is met; a slice's spare places count too). A statement '..UptoSaid' is the law's where the arguments, and the package variables that the reading takes, are together of bulk at most 1048576: NARROWER than '..Said'. Prove '..Said' where nothing that the law and all that it calls make is longer than what came in: it says more and counts as full. Else prove '..UptoSaid'. A law counts once. -/
mutual
def uptoBulk {H : Type} : DataW H → Nat
  | .lit (.string bytes) => bytes.length + 1
  | .lit _ => 1
  | .nil => 1
  | .ptr d => uptoBulk d + 1
  | .slice elems spare => uptoBulkAll elems + uptoBulkAll spare + 1
  | .agg parts => uptoBulkAll parts + 1
  | .iface _ d => uptoBulk d + 1
  | .map entries => uptoBulkEntries entries + 1
  | .held _ => 1
def uptoBulkAll {H : Type} : List (DataW H) → Nat
  | [] => 0
  | d :: r => uptoBulk d + uptoBulkAll r
def uptoBulkEntries {H : Type} : List (Lit × DataW H) → Nat
  | [] => 0
  | x :: r => uptoBulkEntry x + uptoBulkEntries r
def uptoBulkEntry {H : Type} : Lit × DataW H → Nat
  | (.string bytes, d) => bytes.length + uptoBulk d + 1
  | (_, d) => uptoBulk d + 1
 end
def uptoSmall : (H : Type) → List (DataW H) → Bool := fun _ ds => decide (uptoBulkAll ds ≤ 1048576)
def OpenSpec.upto (s : _root_.Go.ChangeSpec) : _root_.Go.OpenSpec := { _root_.Go.OpenSpec.ofChange s with cond := some uptoSmall }

/-- 'laws.FnSplit', WHERE WHAT IT READS IS OF BULK AT MOST 1048576: true; the input reads as it did. -/
def fnSplitUptoRow : OpenClaim := { program := "ytnhflbeahbcklaagreat", sum := "885c30207724a7760fbaeaf79057047ee182d29b47d2219312f0d0bb259d0876", func := "loop.example/g00960/laws.FnSplit", spec := "fnSplit", unfollowed := true, recurses := true, apart := false, narrowed := true }
def FnSplitUptoSaid : Prop := fnSplitUptoRow.holds Tryz.pinned (OpenSpec.upto fnSplitSpec)

/-- 'laws.FnMovie', WHERE WHAT IT READS IS OF BULK AT MOST 1048576: true; the input reads as it did. -/
def fnMovieUptoRow : OpenClaim := { program := "ytnhflbeahbcklaagreat", sum := "885c30207724a7760fbaeaf79057047ee182d29b47d2219312f0d0bb259d0876", func := "loop.example/g00960/laws.FnMovie", spec := "fnMovie", unfollowed := true, recurses := true, apart := false, narrowed := true }
def FnMovieUptoSaid : Prop := fnMovieUptoRow.holds Tryz.pinned (OpenSpec.upto fnMovieSpec)

/-- 'laws.FnAdmits', WHERE WHAT IT READS IS OF BULK AT MOST 1048576: true; the input reads as it did. -/
def fnAdmitsUptoRow : OpenClaim := { program := "ytnhflbeahbcklaagreat", sum := "885c30207724a7760fbaeaf79057047ee182d29b47d2219312f0d0bb259d0876", func := "loop.example/g00960/laws.FnAdmits", spec := "fnAdmits", unfollowed := true, recurses := true, apart := false, narrowed := true }
def FnAdmitsUptoSaid : Prop := fnAdmitsUptoRow.holds Tryz.pinned (OpenSpec.upto fnAdmitsSpec)

/-- 'laws.FnAfterGap', WHERE WHAT IT READS IS OF BULK AT MOST 1048576: true; the input reads as it did. -/
def fnAfterGapUptoRow : OpenClaim := { program := "ytnhflbeahbcklaagreat", sum := "885c30207724a7760fbaeaf79057047ee182d29b47d2219312f0d0bb259d0876", func := "loop.example/g00960/laws.FnAfterGap", spec := "fnAfterGap", unfollowed := true, recurses := true, apart := false, narrowed := true }
def FnAfterGapUptoSaid : Prop := fnAfterGapUptoRow.holds Tryz.pinned (OpenSpec.upto fnAfterGapSpec)

/-- 'laws.FnSource', WHERE WHAT IT READS IS OF BULK AT MOST 1048576: true; the input reads as it did. -/
def fnSourceUptoRow : OpenClaim := { program := "ytnhflbeahbcklaagreat", sum := "885c30207724a7760fbaeaf79057047ee182d29b47d2219312f0d0bb259d0876", func := "loop.example/g00960/laws.FnSource", spec := "fnSource", unfollowed := true, recurses := true, apart := false, narrowed := true }
def FnSourceUptoSaid : Prop := fnSourceUptoRow.holds Tryz.pinned (OpenSpec.upto fnSourceSpec)

end Rows
end Go.Proofs.YtnhflbeahbcklaaGreat
