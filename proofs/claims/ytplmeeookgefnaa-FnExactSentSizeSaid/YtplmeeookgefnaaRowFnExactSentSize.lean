/- The row of the law FnExactSentSize: for every input the law returns true, and each argument reads behind the call as it read before. Conditions: none. -/
import Derived.Test.YtplmeeookgefnaaRows
import Derived.Test.YtplmeeookgefnaaFFnExactSentSizex0
import Derived.Test.YtplmeeookgefnaaPureFnExactSentSize
import Derived.WalkKit
import Derived.ProofKit
import Derived.OpenShut
import Derived.ShutString
import Derived.ChangeOld
import Derived.Below
import Derived.SizedLaws
import Derived.Carry
namespace Go.Proofs.Ytplmeeookgefnaa.fnExactSentSize
open Go.ChangeShapes Go.WideShapes Go.ChangeAt Go.RowKit
open Go.Proofs.YtplmeeookgefnaaAL Go.Proofs.Ytplmeeookgefnaa.A
open Go.ChangeMaps (open_string shut_string)
set_option linter.unusedVariables false
set_option linter.unusedSimpArgs false
theorem own : ownKnob Try.prog.godebug = none := by kernel_rfl
theorem laidOut : laidOutB Try.prog = true := by kernel_rfl
theorem reads178 : Reads Try.prog (fun x : Go.Proofs.Ytplmeeookgefnaa.A.Square => [.int .i64 x.Kind, .int .i64 x.Mode, .int .i64 x.Dx, .int .i64 x.Dy, .ints .i64 x.Levels]) okSquare 178 :=
  Reads.map (Reads.struct (sz := 5) Try.underlying178 (by kernel_rfl) (ReadsF.cons (sz := 1) (sz2 := 4) rfl (by kernel_rfl) (Reads.int (P := Try.prog) Try.underlying3) (ReadsF.cons (sz := 1) (sz2 := 3) rfl (by kernel_rfl) (Reads.int (P := Try.prog) Try.underlying3) (ReadsF.cons (sz := 1) (sz2 := 2) rfl (by kernel_rfl) (Reads.int (P := Try.prog) Try.underlying3) (ReadsF.cons (sz := 1) (sz2 := 1) rfl (by kernel_rfl) (Reads.int (P := Try.prog) Try.underlying3) (ReadsF.one (sz := 1) rfl (by kernel_rfl) (Reads.ints (P := Try.prog) Try.underlying26 Try.underlying3 (by kernel_rfl))) (by kernel_rfl)) (by kernel_rfl)) (by kernel_rfl)) (by kernel_rfl))) (fun y => ⟨y.1, y.2.1, y.2.2.1, y.2.2.2.1, y.2.2.2.2⟩) (fun _ => rfl) (fun _ h => h)
theorem reads72 : Reads Try.prog (fun x : Go.Proofs.Ytplmeeookgefnaa.A.Cond => [.bool x.Key, .int .i64 x.Qp, .bool x.Large, .bool x.Exact]) okCond 72 :=
  Reads.map (Reads.struct (sz := 4) Try.underlying72 (by kernel_rfl) (ReadsF.cons (sz := 1) (sz2 := 3) rfl (by kernel_rfl) (Reads.bool (P := Try.prog) Try.underlying4) (ReadsF.cons (sz := 1) (sz2 := 2) rfl (by kernel_rfl) (Reads.int (P := Try.prog) Try.underlying3) (ReadsF.cons (sz := 1) (sz2 := 1) rfl (by kernel_rfl) (Reads.bool (P := Try.prog) Try.underlying4) (ReadsF.one (sz := 1) rfl (by kernel_rfl) (Reads.bool (P := Try.prog) Try.underlying4)) (by kernel_rfl)) (by kernel_rfl)) (by kernel_rfl))) (fun y => ⟨y.1, y.2.1, y.2.2.1, y.2.2.2⟩) (fun _ => rfl) (fun _ h => h)
set_option maxRecDepth 100000 in
set_option maxHeartbeats 4000000 in
theorem lifted (os : Os) (started : os.Started) (H : Type) (enc : TypeId × Value → H) :
    ReturnsInHanded {} Try.checked os 7 .any (Rows.fnExactSentSizeSpec.pre6 enc Try.prog Try.f7 Rows.fnExactSentSizeRow.domain false) (Rows.fnExactSentSizeSpec.post enc Try.prog Try.f7 false true false false) := by
  refine returnsInHanded_of_change_sized (C := Try.checked) own started (by kernel_rfl) Try.func7
    (ChangeSpec.witness6 (enc := enc) (C := Try.checked) false ⟨#[], #[.slice none 0 0, .agg #[.bool false, .int .i64 0, .bool false, .bool false]], []⟩ 8 (by kernel_rfl) (by kernel_rfl) (by kernel_rfl) (by kernel_rfl)) ?_
  intro W base args ds gs before hval0 hW hcnd hsz0 _
  have hval : ∀ (j : Nat) t v, Try.f7.params[j]? = some t → args[j]? = some v → Value.okWide Try.prog W .any base t v := hval0
  have hW' := hW
  obtain ⟨p, q, hA0, hV, rfl, hfz, hnd⟩ := hW
  have hA : DataW.TrodAll enc Try.prog W 0 (fun _ => true) true Try.f7.params.toList args.toList ds p := hA0
  rw [Try.params7] at hA hval
  obtain ⟨v0, vs0, d0, ds0, p0, q0, hargs, rfl, rfl, h0, r0⟩ := trodAll_cons hA
  obtain ⟨v1, vs1, d1, ds1, p1, q1, rfl, rfl, rfl, h1, r1⟩ := trodAll_cons r0
  obtain ⟨rfl, rfl, rfl⟩ := trodAll_nil r1
  obtain rfl : args = #[v0, v1] := by cases args; simp_all
  obtain ⟨rfl, rfl⟩ := trodVars_none hV
  have k0_ := h0
  have lt0 : ∀ x ∈ p0, x.block < W.heap.size := by obtain ⟨m, hm⟩ := k0_; exact DataW.trod_lt m _ _ _ hm
  obtain ⟨b0, len0, cap0, rfl⟩ := okWide_slice Try.underlying70 (hval 0 70 v0 rfl rfl)
  obtain ⟨fu0, hm0⟩ := h0
  obtain ⟨a0, y0, f0⟩ := (Reads.row (P := Try.prog) cSquare cSquare_ok Try.underlying70 (by kernel_rfl) reads178) enc W 0 _ _ fu0 _ _ hm0
  have k1_ := h1
  have lt1 : ∀ x ∈ p1, x.block < W.heap.size := by obtain ⟨m, hm⟩ := k1_; exact DataW.trod_lt m _ _ _ hm
  obtain ⟨cs1, rfl, _⟩ := okWide_struct Try.underlying72 (hval 1 72 v1 rfl rfl)
  obtain ⟨fu1, hm1⟩ := h1
  obtain ⟨a1, y1, f1⟩ := reads72 enc W 0 _ _ fu1 _ _ hm1
  clear hA0 hval0 hsz0
  have hP := Pure.FnExactSentSize (p0 := a0) (p1 := a1) (h0 := y0) (h1 := y1)
  refine (ac_calls (laws_FnExactSentSize_ac hP) (us := [.slice b0 len0 cap0, .agg cs1]) ⟨rep_one f0, rep_agg f1, trivial⟩).mono fun e W' ⟨he, bel⟩ => ?_
  subst he
  exact ⟨_, rfl, _, _, _, [], _, [], hW', trodAll_mk1 (shut_bool Try.underlying4 _), (trodAll_cons_mk (Below.trod laidOut (by kernel_rfl) (of_decide_eq_true (by kernel_rfl)) k0_ bel lt0) (trodAll_cons_mk (Below.trod laidOut (by kernel_rfl) (of_decide_eq_true (by kernel_rfl)) k1_ bel lt1) trodAll_mk0)), rfl, bel.frame _, fun h => by cases h⟩
theorem c_inPlace : (Rows.fnExactSentSizeRow.inPlace == Try.prog.inPlace 7) = true := by kernel_rfl
theorem c_unfollowed : (Rows.fnExactSentSizeRow.unfollowed == Try.prog.unfollowed 7) = true := by kernel_rfl
theorem c_recurses : (Rows.fnExactSentSizeRow.recurses == Try.prog.recurses 7) = true := by kernel_rfl
theorem c_named : (Rows.fnExactSentSizeRow.named == Try.prog.varsNamed 7) = true := by kernel_rfl
theorem c_maps : mapsRowed Try.prog = true := by kernel_rfl
theorem closed : joinedFacts Try.prog 7 Try.f7 Rows.fnExactSentSizeSpec Rows.fnExactSentSizeRow = true := by
  unfold joinedFacts
  rw [laidOut, c_maps, c_inPlace, c_unfollowed, c_recurses, c_named]
  kernel_rfl
theorem over : Rows.fnExactSentSizeRow.holds Try.pinned (OpenSpec.ofChange Rows.fnExactSentSizeSpec) :=
  OpenClaim.holds_of_wide 7 Try.f7 rfl rfl rfl rfl rfl rfl rfl ⟨rfl, rfl, rfl, rfl, rfl⟩ rfl rfl rfl rfl rfl (by kernel_rfl) Try.func7 closed
    (of_decide_eq_true (by kernel_rfl)) (by unfold Func.isWrapper; first | (rw [if_pos (by decide +kernel)]; kernel_rfl) | (rw [if_neg (by decide +kernel)]; exact ⟨rfl, rfl⟩))
    (fun os started H enc _ => lifted os started H enc)
theorem proved : Rows.FnExactSentSizeSaid := over
#print axioms proved
end Go.Proofs.Ytplmeeookgefnaa.fnExactSentSize
namespace Go.Proofs.Ytplmeeookgefnaa
/-- The row, under a short name, for the claim. -/
theorem fnExactSentSize_holds : Rows.FnExactSentSizeSaid := fnExactSentSize.proved
end Go.Proofs.Ytplmeeookgefnaa
