/- The row of the law FnExactSourceSets: for every input the law returns true, and each argument reads behind the call as it read before. Conditions: none. -/
import Derived.Test.YtplmeeookgefnaaRows
import Derived.Test.YtplmeeookgefnaaFFnExactSourceSetsx1
import Derived.Test.YtplmeeookgefnaaPureFnExactSourceSets
import Derived.WalkKit
import Derived.ProofKit
import Derived.OpenShut
import Derived.ShutString
import Derived.ChangeOld
import Derived.Below
import Derived.SizedLaws
import Derived.Carry
namespace Go.Proofs.Ytplmeeookgefnaa.fnExactSourceSets
open Go.ChangeShapes Go.WideShapes Go.ChangeAt Go.RowKit
open Go.Proofs.YtplmeeookgefnaaAL Go.Proofs.Ytplmeeookgefnaa.A
open Go.ChangeMaps (open_string shut_string)
set_option linter.unusedVariables false
set_option linter.unusedSimpArgs false
theorem own : ownKnob Try.prog.godebug = none := by kernel_rfl
theorem laidOut : laidOutB Try.prog = true := by kernel_rfl
theorem reads103 : Reads Try.prog (fun x : Go.Proofs.Ytplmeeookgefnaa.A.Seq => [.int .i64 x.Level, .int .i64 x.Bits, .ints .i64 x.Cols, .ints .i64 x.Rows]) okSeq 103 :=
  Reads.map (Reads.struct (sz := 4) Try.underlying103 (by kernel_rfl) (ReadsF.cons (sz := 1) (sz2 := 3) rfl (by kernel_rfl) (Reads.int (P := Try.prog) Try.underlying3) (ReadsF.cons (sz := 1) (sz2 := 2) rfl (by kernel_rfl) (Reads.int (P := Try.prog) Try.underlying3) (ReadsF.cons (sz := 1) (sz2 := 1) rfl (by kernel_rfl) (Reads.ints (P := Try.prog) Try.underlying26 Try.underlying3 (by kernel_rfl)) (ReadsF.one (sz := 1) rfl (by kernel_rfl) (Reads.ints (P := Try.prog) Try.underlying26 Try.underlying3 (by kernel_rfl))) (by kernel_rfl)) (by kernel_rfl)) (by kernel_rfl))) (fun y => ⟨y.1, y.2.1, y.2.2.1, y.2.2.2⟩) (fun _ => rfl) (fun _ h => h)
theorem reads44 : Reads Try.prog (fun x : Go.Proofs.Ytplmeeookgefnaa.A.Par => [.int .i64 x.Qp, .bool x.Large, .bool x.Exact, .bool x.Confined]) okPar 44 :=
  Reads.map (Reads.struct (sz := 4) Try.underlying44 (by kernel_rfl) (ReadsF.cons (sz := 1) (sz2 := 3) rfl (by kernel_rfl) (Reads.int (P := Try.prog) Try.underlying3) (ReadsF.cons (sz := 1) (sz2 := 2) rfl (by kernel_rfl) (Reads.bool (P := Try.prog) Try.underlying4) (ReadsF.cons (sz := 1) (sz2 := 1) rfl (by kernel_rfl) (Reads.bool (P := Try.prog) Try.underlying4) (ReadsF.one (sz := 1) rfl (by kernel_rfl) (Reads.bool (P := Try.prog) Try.underlying4)) (by kernel_rfl)) (by kernel_rfl)) (by kernel_rfl))) (fun y => ⟨y.1, y.2.1, y.2.2.1, y.2.2.2⟩) (fun _ => rfl) (fun _ h => h)
theorem reads45 : Reads Try.prog (fun x : Go.Proofs.Ytplmeeookgefnaa.A.Rate => [.int .i64 x.Qp, .int .i64 x.Target, .int .i64 x.Debt]) okRate 45 :=
  Reads.map (Reads.struct (sz := 3) Try.underlying45 (by kernel_rfl) (ReadsF.cons (sz := 1) (sz2 := 2) rfl (by kernel_rfl) (Reads.int (P := Try.prog) Try.underlying3) (ReadsF.cons (sz := 1) (sz2 := 1) rfl (by kernel_rfl) (Reads.int (P := Try.prog) Try.underlying3) (ReadsF.one (sz := 1) rfl (by kernel_rfl) (Reads.int (P := Try.prog) Try.underlying3)) (by kernel_rfl)) (by kernel_rfl))) (fun y => ⟨y.1, y.2.1, y.2.2⟩) (fun _ => rfl) (fun _ h => h)
theorem reads104 : Reads Try.prog (fun x : Go.Proofs.Ytplmeeookgefnaa.A.Pic => [.int .i64 x.Wide, .int .i64 x.High, .str x.Dots]) okPic 104 :=
  Reads.map (Reads.struct (sz := 3) Try.underlying104 (by kernel_rfl) (ReadsF.cons (sz := 1) (sz2 := 2) rfl (by kernel_rfl) (Reads.int (P := Try.prog) Try.underlying3) (ReadsF.cons (sz := 1) (sz2 := 1) rfl (by kernel_rfl) (Reads.int (P := Try.prog) Try.underlying3) (ReadsF.one (sz := 1) rfl (by kernel_rfl) (Reads.string (P := Try.prog) Try.underlying9)) (by kernel_rfl)) (by kernel_rfl))) (fun y => ⟨y.1, y.2.1, y.2.2⟩) (fun _ => rfl) (fun _ h => h)
theorem reads106 : Reads Try.prog (fun x : Go.Proofs.Ytplmeeookgefnaa.A.Source => [.int .i64 x.Seq.Level, .int .i64 x.Seq.Bits, .ints .i64 x.Seq.Cols, .ints .i64 x.Seq.Rows, .int .i64 x.Par.Qp, .bool x.Par.Large, .bool x.Par.Exact, .bool x.Par.Confined, .int .i64 x.Rate.Qp, .int .i64 x.Rate.Target, .int .i64 x.Rate.Debt, .int .i64 x.Frame, .int .i64 x.Since, .int .i64 x.Every, .int .i64 x.Reach, .bool x.Has, .int .i64 x.Ref.Wide, .int .i64 x.Ref.High, .str x.Ref.Dots]) okSource 106 :=
  Reads.map (Reads.struct (sz := 19) Try.underlying106 (by kernel_rfl) (ReadsF.cons (sz := 4) (sz2 := 15) rfl (by kernel_rfl) reads103 (ReadsF.cons (sz := 4) (sz2 := 11) rfl (by kernel_rfl) reads44 (ReadsF.cons (sz := 3) (sz2 := 8) rfl (by kernel_rfl) reads45 (ReadsF.cons (sz := 1) (sz2 := 7) rfl (by kernel_rfl) (Reads.int (P := Try.prog) Try.underlying3) (ReadsF.cons (sz := 1) (sz2 := 6) rfl (by kernel_rfl) (Reads.int (P := Try.prog) Try.underlying3) (ReadsF.cons (sz := 1) (sz2 := 5) rfl (by kernel_rfl) (Reads.int (P := Try.prog) Try.underlying3) (ReadsF.cons (sz := 1) (sz2 := 4) rfl (by kernel_rfl) (Reads.int (P := Try.prog) Try.underlying3) (ReadsF.cons (sz := 1) (sz2 := 3) rfl (by kernel_rfl) (Reads.bool (P := Try.prog) Try.underlying4) (ReadsF.one (sz := 3) rfl (by kernel_rfl) reads104) (by kernel_rfl)) (by kernel_rfl)) (by kernel_rfl)) (by kernel_rfl)) (by kernel_rfl)) (by kernel_rfl)) (by kernel_rfl)) (by kernel_rfl))) (fun y => ⟨y.1, y.2.1, y.2.2.1, y.2.2.2.1, y.2.2.2.2.1, y.2.2.2.2.2.1, y.2.2.2.2.2.2.1, y.2.2.2.2.2.2.2.1, y.2.2.2.2.2.2.2.2⟩) (fun _ => rfl) (fun _ h => h)
set_option maxRecDepth 100000 in
set_option maxHeartbeats 4000000 in
theorem lifted (os : Os) (started : os.Started) (H : Type) (enc : TypeId × Value → H) :
    ReturnsInHanded {} Try.checked os 12 .any (Rows.fnExactSourceSetsSpec.pre6 enc Try.prog Try.f12 Rows.fnExactSourceSetsRow.domain false) (Rows.fnExactSourceSetsSpec.post enc Try.prog Try.f12 false true false false) := by
  refine returnsInHanded_of_change_sized (C := Try.checked) own started (by kernel_rfl) Try.func12
    (ChangeSpec.witness6 (enc := enc) (C := Try.checked) false ⟨#[], #[.agg #[.int .i64 0, .int .i64 0, .slice none 0 0, .slice none 0 0, .int .i64 0, .bool false, .bool false, .bool false, .int .i64 0, .int .i64 0, .int .i64 0, .int .i64 0, .int .i64 0, .int .i64 0, .int .i64 0, .bool false, .int .i64 0, .int .i64 0, .string ByteArray.empty]], []⟩ 8 (by kernel_rfl) (by kernel_rfl) (by kernel_rfl) (by kernel_rfl)) ?_
  intro W base args ds gs before hval0 hW hcnd hsz0 _
  have hval : ∀ (j : Nat) t v, Try.f12.params[j]? = some t → args[j]? = some v → Value.okWide Try.prog W .any base t v := hval0
  have hW' := hW
  obtain ⟨p, q, hA0, hV, rfl, hfz, hnd⟩ := hW
  have hA : DataW.TrodAll enc Try.prog W 0 (fun _ => true) true Try.f12.params.toList args.toList ds p := hA0
  rw [Try.params12] at hA hval
  obtain ⟨v0, vs0, d0, ds0, p0, q0, hargs, rfl, rfl, h0, r0⟩ := trodAll_cons hA
  obtain ⟨rfl, rfl, rfl⟩ := trodAll_nil r0
  obtain rfl : args = #[v0] := by cases args; simp_all
  obtain ⟨rfl, rfl⟩ := trodVars_none hV
  have k0_ := h0
  have lt0 : ∀ x ∈ p0, x.block < W.heap.size := by obtain ⟨m, hm⟩ := k0_; exact DataW.trod_lt m _ _ _ hm
  obtain ⟨cs0, rfl, _⟩ := okWide_struct Try.underlying106 (hval 0 106 v0 rfl rfl)
  obtain ⟨fu0, hm0⟩ := h0
  obtain ⟨a0, y0, f0⟩ := reads106 enc W 0 _ _ fu0 _ _ hm0
  clear hA0 hval0 hsz0
  have hP := Pure.FnExactSourceSets (p0 := a0) (h0 := y0)
  refine (ac_calls (laws_FnExactSourceSets_ac hP) (us := [.agg cs0]) ⟨rep_agg f0, trivial⟩).mono fun e W' ⟨he, bel⟩ => ?_
  subst he
  exact ⟨_, rfl, _, _, _, [], _, [], hW', trodAll_mk1 (shut_bool Try.underlying4 _), (trodAll_cons_mk (Below.trod laidOut (by kernel_rfl) (of_decide_eq_true (by kernel_rfl)) k0_ bel lt0) trodAll_mk0), rfl, bel.frame _, fun h => by cases h⟩
theorem c_inPlace : (Rows.fnExactSourceSetsRow.inPlace == Try.prog.inPlace 12) = true := by kernel_rfl
theorem c_unfollowed : (Rows.fnExactSourceSetsRow.unfollowed == Try.prog.unfollowed 12) = true := by kernel_rfl
theorem c_recurses : (Rows.fnExactSourceSetsRow.recurses == Try.prog.recurses 12) = true := by kernel_rfl
theorem c_named : (Rows.fnExactSourceSetsRow.named == Try.prog.varsNamed 12) = true := by kernel_rfl
theorem c_maps : mapsRowed Try.prog = true := by kernel_rfl
theorem closed : joinedFacts Try.prog 12 Try.f12 Rows.fnExactSourceSetsSpec Rows.fnExactSourceSetsRow = true := by
  unfold joinedFacts
  rw [laidOut, c_maps, c_inPlace, c_unfollowed, c_recurses, c_named]
  kernel_rfl
theorem over : Rows.fnExactSourceSetsRow.holds Try.pinned (OpenSpec.ofChange Rows.fnExactSourceSetsSpec) :=
  OpenClaim.holds_of_wide 12 Try.f12 rfl rfl rfl rfl rfl rfl rfl ⟨rfl, rfl, rfl, rfl, rfl⟩ rfl rfl rfl rfl rfl (by kernel_rfl) Try.func12 closed
    (of_decide_eq_true (by kernel_rfl)) (by unfold Func.isWrapper; first | (rw [if_pos (by decide +kernel)]; kernel_rfl) | (rw [if_neg (by decide +kernel)]; exact ⟨rfl, rfl⟩))
    (fun os started H enc _ => lifted os started H enc)
theorem proved : Rows.FnExactSourceSetsSaid := over
#print axioms proved
end Go.Proofs.Ytplmeeookgefnaa.fnExactSourceSets
namespace Go.Proofs.Ytplmeeookgefnaa
/-- The row, under a short name, for the claim. -/
theorem fnExactSourceSets_holds : Rows.FnExactSourceSetsSaid := fnExactSourceSets.proved
end Go.Proofs.Ytplmeeookgefnaa
