/- The row of the law FnExactSourceSets: for every input the law returns true, and each argument reads behind the call as it read before. Conditions: none. -/
import Derived.Test.YtlebkepfhdjnmabRows
import Derived.Test.YtlebkepfhdjnmabFFnExactSourceSetsx0
import Derived.Test.YtlebkepfhdjnmabPureFnExactSourceSets
import Derived.WalkKit
import Derived.ProofKit
import Derived.OpenShut
import Derived.ShutString
import Derived.ChangeOld
import Derived.Below
import Derived.SizedLaws
import Derived.Carry
namespace Go.Proofs.Ytlebkepfhdjnmab.fnExactSourceSets
open Go.ChangeShapes Go.WideShapes Go.ChangeAt Go.RowKit
open Go.Proofs.YtlebkepfhdjnmabAL Go.Proofs.Ytlebkepfhdjnmab.A
open Go.ChangeMaps (open_string shut_string)
set_option linter.unusedVariables false
set_option linter.unusedSimpArgs false
theorem own : ownKnob Try.prog.godebug = none := by kernel_rfl
theorem laidOut : laidOutB Try.prog = true := by kernel_rfl
theorem reads75 : Xau Try.prog (fun x : Go.Proofs.Ytlebkepfhdjnmab.A.Seq => [.int .i64 x.Level, .int .i64 x.Bits, .ints .i64 x.Cols, .ints .i64 x.Rows]) Xxz 75 :=
 Xau.map (Xau.struct (sz := 4) Try.underlying75 (by kernel_rfl) (Xbd.cons (sz := 1) (sz2 := 3) rfl (by kernel_rfl) (Xau.int (P := Try.prog) Try.underlying3) (Xbd.cons (sz := 1) (sz2 := 2) rfl (by kernel_rfl) (Xau.int (P := Try.prog) Try.underlying3) (Xbd.cons (sz := 1) (sz2 := 1) rfl (by kernel_rfl) (Xau.ints (P := Try.prog) Try.underlying28 Try.underlying3 (by kernel_rfl)) (Xbd.one (sz := 1) rfl (by kernel_rfl) (Xau.ints (P := Try.prog) Try.underlying28 Try.underlying3 (by kernel_rfl))) (by kernel_rfl)) (by kernel_rfl)) (by kernel_rfl))) (fun y => ⟨y.1, y.2.1, y.2.2.1, y.2.2.2⟩) (fun _ => rfl) (fun _ h => h)
theorem reads59 : Xau Try.prog (fun x : Go.Proofs.Ytlebkepfhdjnmab.A.Par => [.int .i64 x.Qp, .bool x.Large, .bool x.Exact, .bool x.Confined]) Xz8 59 :=
 Xau.map (Xau.struct (sz := 4) Try.underlying59 (by kernel_rfl) (Xbd.cons (sz := 1) (sz2 := 3) rfl (by kernel_rfl) (Xau.int (P := Try.prog) Try.underlying3) (Xbd.cons (sz := 1) (sz2 := 2) rfl (by kernel_rfl) (Xau.bool (P := Try.prog) Try.underlying4) (Xbd.cons (sz := 1) (sz2 := 1) rfl (by kernel_rfl) (Xau.bool (P := Try.prog) Try.underlying4) (Xbd.one (sz := 1) rfl (by kernel_rfl) (Xau.bool (P := Try.prog) Try.underlying4)) (by kernel_rfl)) (by kernel_rfl)) (by kernel_rfl))) (fun y => ⟨y.1, y.2.1, y.2.2.1, y.2.2.2⟩) (fun _ => rfl) (fun _ h => h)
theorem reads61 : Xau Try.prog (fun x : Go.Proofs.Ytlebkepfhdjnmab.A.Rate => [.int .i64 x.Qp, .int .i64 x.Target, .int .i64 x.Debt]) Xym 61 :=
 Xau.map (Xau.struct (sz := 3) Try.underlying61 (by kernel_rfl) (Xbd.cons (sz := 1) (sz2 := 2) rfl (by kernel_rfl) (Xau.int (P := Try.prog) Try.underlying3) (Xbd.cons (sz := 1) (sz2 := 1) rfl (by kernel_rfl) (Xau.int (P := Try.prog) Try.underlying3) (Xbd.one (sz := 1) rfl (by kernel_rfl) (Xau.int (P := Try.prog) Try.underlying3)) (by kernel_rfl)) (by kernel_rfl))) (fun y => ⟨y.1, y.2.1, y.2.2⟩) (fun _ => rfl) (fun _ h => h)
theorem reads76 : Xau Try.prog (fun x : Go.Proofs.Ytlebkepfhdjnmab.A.Pic => [.int .i64 x.Wide, .int .i64 x.High, .str x.Dots]) Xy6 76 :=
 Xau.map (Xau.struct (sz := 3) Try.underlying76 (by kernel_rfl) (Xbd.cons (sz := 1) (sz2 := 2) rfl (by kernel_rfl) (Xau.int (P := Try.prog) Try.underlying3) (Xbd.cons (sz := 1) (sz2 := 1) rfl (by kernel_rfl) (Xau.int (P := Try.prog) Try.underlying3) (Xbd.one (sz := 1) rfl (by kernel_rfl) (Xau.string (P := Try.prog) Try.underlying9)) (by kernel_rfl)) (by kernel_rfl))) (fun y => ⟨y.1, y.2.1, y.2.2⟩) (fun _ => rfl) (fun _ h => h)
theorem reads78 : Xau Try.prog (fun x : Go.Proofs.Ytlebkepfhdjnmab.A.Source => [.int .i64 x.Seq.Level, .int .i64 x.Seq.Bits, .ints .i64 x.Seq.Cols, .ints .i64 x.Seq.Rows, .int .i64 x.Par.Qp, .bool x.Par.Large, .bool x.Par.Exact, .bool x.Par.Confined, .int .i64 x.Rate.Qp, .int .i64 x.Rate.Target, .int .i64 x.Rate.Debt, .int .i64 x.Frame, .int .i64 x.Since, .int .i64 x.Every, .int .i64 x.Reach, .bool x.Has, .int .i64 x.Ref.Wide, .int .i64 x.Ref.High, .str x.Ref.Dots]) Xi4 78 :=
 Xau.map (Xau.struct (sz := 19) Try.underlying78 (by kernel_rfl) (Xbd.cons (sz := 4) (sz2 := 15) rfl (by kernel_rfl) reads75 (Xbd.cons (sz := 4) (sz2 := 11) rfl (by kernel_rfl) reads59 (Xbd.cons (sz := 3) (sz2 := 8) rfl (by kernel_rfl) reads61 (Xbd.cons (sz := 1) (sz2 := 7) rfl (by kernel_rfl) (Xau.int (P := Try.prog) Try.underlying3) (Xbd.cons (sz := 1) (sz2 := 6) rfl (by kernel_rfl) (Xau.int (P := Try.prog) Try.underlying3) (Xbd.cons (sz := 1) (sz2 := 5) rfl (by kernel_rfl) (Xau.int (P := Try.prog) Try.underlying3) (Xbd.cons (sz := 1) (sz2 := 4) rfl (by kernel_rfl) (Xau.int (P := Try.prog) Try.underlying3) (Xbd.cons (sz := 1) (sz2 := 3) rfl (by kernel_rfl) (Xau.bool (P := Try.prog) Try.underlying4) (Xbd.one (sz := 3) rfl (by kernel_rfl) reads76) (by kernel_rfl)) (by kernel_rfl)) (by kernel_rfl)) (by kernel_rfl)) (by kernel_rfl)) (by kernel_rfl)) (by kernel_rfl)) (by kernel_rfl))) (fun y => ⟨y.1, y.2.1, y.2.2.1, y.2.2.2.1, y.2.2.2.2.1, y.2.2.2.2.2.1, y.2.2.2.2.2.2.1, y.2.2.2.2.2.2.2.1, y.2.2.2.2.2.2.2.2⟩) (fun _ => rfl) (fun _ h => h)
set_option maxRecDepth 100000 in
set_option maxHeartbeats 4000000 in
theorem lifted (os : Os) (started : os.Started) (H : Type) (enc : TypeId × Value → H) :
  ReturnsInHanded {} Try.checked os 7 .any (Rows.fnExactSourceSetsSpec.pre6 enc Try.prog Try.f7 Rows.fnExactSourceSetsRow.domain false) (Rows.fnExactSourceSetsSpec.post enc Try.prog Try.f7 false true false false) := by
 refine returnsInHanded_of_change_sized (C := Try.checked) own started (by kernel_rfl) Try.func7
  (ChangeSpec.witness6 (enc := enc) (C := Try.checked) false ⟨#[], #[.agg #[.int .i64 0, .int .i64 0, .slice none 0 0, .slice none 0 0, .int .i64 0, .bool false, .bool false, .bool false, .int .i64 0, .int .i64 0, .int .i64 0, .int .i64 0, .int .i64 0, .int .i64 0, .int .i64 0, .bool false, .int .i64 0, .int .i64 0, .string ByteArray.empty]], []⟩ 8 (by kernel_rfl) (by kernel_rfl) (by kernel_rfl) (by kernel_rfl)) ?_
 intro W base args ds gs before hval0 hW hcnd hsz0 _
 have hval : ∀ (j : Nat) t v, Try.f7.params[j]? = some t → args[j]? = some v → Value.okWide Try.prog W .any base t v := hval0
 have hW' := hW
 obtain ⟨p, q, hA0, hV, rfl, hfz, hnd⟩ := hW
 have hA : DataW.TrodAll enc Try.prog W 0 (fun _ => true) true Try.f7.params.toList args.toList ds p := hA0
 rw [Try.params7] at hA hval
 obtain ⟨v0, vs0, d0, ds0, p0, q0, hargs, rfl, rfl, h0, r0⟩ := trodAll_cons hA
 obtain ⟨rfl, rfl, rfl⟩ := trodAll_nil r0
 obtain rfl : args = #[v0] := by cases args; simp_all
 obtain ⟨rfl, rfl⟩ := trodVars_none hV
 have k0_ := h0
 have lt0 : ∀ x ∈ p0, x.block < W.heap.size := by obtain ⟨m, hm⟩ := k0_; exact DataW.trod_lt m _ _ _ hm
 obtain ⟨cs0, rfl, _⟩ := okWide_struct Try.underlying78 (hval 0 78 v0 rfl rfl)
 obtain ⟨fu0, hm0⟩ := h0
 obtain ⟨a0, y0, f0⟩ := reads78 enc W 0 _ _ fu0 _ _ hm0
 clear hA0 hval0 hsz0
 have hP := Pure.FnExactSourceSets (p0 := a0) (h0 := y0)
 refine (Xxh (Xfd hP) (us := [.agg cs0]) ⟨Xy7 f0, trivial⟩).mono fun e W' ⟨he, bel⟩ => ?_
 subst he
 exact ⟨_, rfl, _, _, _, [], _, [], hW', trodAll_mk1 (shut_bool Try.underlying4 _), (trodAll_cons_mk (Below.trod laidOut (by kernel_rfl) (of_decide_eq_true (by kernel_rfl)) k0_ bel lt0) trodAll_mk0), rfl, bel.frame _, fun h => by cases h⟩
theorem c_inPlace : (Rows.fnExactSourceSetsRow.inPlace == Try.prog.inPlace 7) = true := by kernel_rfl
theorem c_unfollowed : (Rows.fnExactSourceSetsRow.unfollowed == Try.prog.unfollowed 7) = true := by kernel_rfl
theorem c_recurses : (Rows.fnExactSourceSetsRow.recurses == Try.prog.recurses 7) = true := by kernel_rfl
theorem c_named : (Rows.fnExactSourceSetsRow.named == Try.prog.varsNamed 7) = true := by kernel_rfl
theorem c_maps : mapsRowed Try.prog = true := by kernel_rfl
theorem closed : joinedFacts Try.prog 7 Try.f7 Rows.fnExactSourceSetsSpec Rows.fnExactSourceSetsRow = true := by
 unfold joinedFacts
 rw [laidOut, c_maps, c_inPlace, c_unfollowed, c_recurses, c_named]
 kernel_rfl
theorem over : Rows.fnExactSourceSetsRow.holds Try.pinned (OpenSpec.ofChange Rows.fnExactSourceSetsSpec) :=
 OpenClaim.holds_of_wide 7 Try.f7 rfl rfl rfl rfl rfl rfl rfl ⟨rfl, rfl, rfl, rfl, rfl⟩ rfl rfl rfl rfl rfl (by kernel_rfl) Try.func7 closed
  (of_decide_eq_true (by kernel_rfl)) (by unfold Func.isWrapper; first | (rw [if_pos (by decide +kernel)]; kernel_rfl) | (rw [if_neg (by decide +kernel)]; exact ⟨rfl, rfl⟩))
  (fun os started H enc _ => lifted os started H enc)
theorem proved : Rows.FnExactSourceSetsSaid := over
#print axioms proved
end Go.Proofs.Ytlebkepfhdjnmab.fnExactSourceSets
namespace Go.Proofs.Ytlebkepfhdjnmab
/-- The row, under a short name, for the claim. -/
theorem fnExactSourceSets_holds : Rows.FnExactSourceSetsSaid := fnExactSourceSets.proved
end Go.Proofs.Ytlebkepfhdjnmab
