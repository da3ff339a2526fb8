/- The row of the law FnExactAdmitStep: for every input the law returns true, and each argument reads behind the call as it read before. Conditions: none. -/
import Derived.Test.YtnhflbeahbcklabGreatRows
import Derived.Test.YtnhflbeahbcklabGreatFFnExactAdmitStepx1
import Derived.Test.YtnhflbeahbcklabGreatPureFnExactAdmitStep
import Derived.WalkKit
import Derived.ProofKit
import Derived.OpenShut
import Derived.ShutString
import Derived.ChangeOld
import Derived.Below
import Derived.SizedLaws
import Derived.Carry
namespace Go.Proofs.YtnhflbeahbcklabGreat.fnExactAdmitStep
open Go.ChangeShapes Go.WideShapes Go.ChangeAt Go.RowKit
open Go.Proofs.YtnhflbeahbcklabGreatAL Go.Proofs.YtnhflbeahbcklabGreat.A
open Go.ChangeMaps (open_string shut_string)
set_option linter.unusedVariables false
set_option linter.unusedSimpArgs false
theorem own : ownKnob Tryz.prog.godebug = none := by kernel_rfl
theorem laidOut : laidOutB Tryz.prog = true := by kernel_rfl
theorem reads62 : Xci Tryz.prog (fun x : Go.Proofs.YtnhflbeahbcklabGreat.A.Seq => [.int .i64 x.Level, .int .i64 x.Bits, .ints .i64 x.Cols, .ints .i64 x.Rows]) Ygs 62 :=
 Xci.map (Xci.struct (sz := 4) Tryz.underlying62 (by kernel_rfl) (Xev.cons (sz := 1) (sz2 := 3) rfl (by kernel_rfl) (Xci.int (P := Tryz.prog) Tryz.underlying3) (Xev.cons (sz := 1) (sz2 := 2) rfl (by kernel_rfl) (Xci.int (P := Tryz.prog) Tryz.underlying3) (Xev.cons (sz := 1) (sz2 := 1) rfl (by kernel_rfl) (Xci.ints (P := Tryz.prog) Tryz.underlying29 Tryz.underlying3 (by kernel_rfl)) (Xev.one (sz := 1) rfl (by kernel_rfl) (Xci.ints (P := Tryz.prog) Tryz.underlying29 Tryz.underlying3 (by kernel_rfl))) (by kernel_rfl)) (by kernel_rfl)) (by kernel_rfl))) (fun y => ⟨y.1, y.2.1, y.2.2.1, y.2.2.2⟩) (fun _ => rfl) (fun _ h => h)
theorem reads63 : Xci Tryz.prog (fun x : Go.Proofs.YtnhflbeahbcklabGreat.A.Par => [.int .i64 x.Qp, .bool x.Large, .bool x.Exact, .bool x.Confined]) Ygr 63 :=
 Xci.map (Xci.struct (sz := 4) Tryz.underlying63 (by kernel_rfl) (Xev.cons (sz := 1) (sz2 := 3) rfl (by kernel_rfl) (Xci.int (P := Tryz.prog) Tryz.underlying3) (Xev.cons (sz := 1) (sz2 := 2) rfl (by kernel_rfl) (Xci.bool (P := Tryz.prog) Tryz.underlying4) (Xev.cons (sz := 1) (sz2 := 1) rfl (by kernel_rfl) (Xci.bool (P := Tryz.prog) Tryz.underlying4) (Xev.one (sz := 1) rfl (by kernel_rfl) (Xci.bool (P := Tryz.prog) Tryz.underlying4)) (by kernel_rfl)) (by kernel_rfl)) (by kernel_rfl))) (fun y => ⟨y.1, y.2.1, y.2.2.1, y.2.2.2⟩) (fun _ => rfl) (fun _ h => h)
theorem reads78 : Xci Tryz.prog (fun x : Go.Proofs.YtnhflbeahbcklabGreat.A.Admit => [.bool x.Has, .bool x.Live, .int .i64 x.Seq.Level, .int .i64 x.Seq.Bits, .ints .i64 x.Seq.Cols, .ints .i64 x.Seq.Rows, .int .i64 x.Par.Qp, .bool x.Par.Large, .bool x.Par.Exact, .bool x.Par.Confined, .int .i64 x.Frame, .int .i64 x.Count, .int .i64 x.Gone]) Yam 78 :=
 Xci.map (Xci.struct (sz := 13) Tryz.underlying78 (by kernel_rfl) (Xev.cons (sz := 1) (sz2 := 12) rfl (by kernel_rfl) (Xci.bool (P := Tryz.prog) Tryz.underlying4) (Xev.cons (sz := 1) (sz2 := 11) rfl (by kernel_rfl) (Xci.bool (P := Tryz.prog) Tryz.underlying4) (Xev.cons (sz := 4) (sz2 := 7) rfl (by kernel_rfl) reads62 (Xev.cons (sz := 4) (sz2 := 3) rfl (by kernel_rfl) reads63 (Xev.cons (sz := 1) (sz2 := 2) rfl (by kernel_rfl) (Xci.int (P := Tryz.prog) Tryz.underlying3) (Xev.cons (sz := 1) (sz2 := 1) rfl (by kernel_rfl) (Xci.int (P := Tryz.prog) Tryz.underlying3) (Xev.one (sz := 1) rfl (by kernel_rfl) (Xci.int (P := Tryz.prog) Tryz.underlying3)) (by kernel_rfl)) (by kernel_rfl)) (by kernel_rfl)) (by kernel_rfl)) (by kernel_rfl)) (by kernel_rfl))) (fun y => ⟨y.1, y.2.1, y.2.2.1, y.2.2.2.1, y.2.2.2.2.1, y.2.2.2.2.2.1, y.2.2.2.2.2.2⟩) (fun _ => rfl) (fun _ h => h)
set_option maxRecDepth 100000 in
set_option maxHeartbeats 4000000 in
theorem lifted (os : Os) (started : os.Started) (H : Type) (enc : TypeId × Value → H) :
  ReturnsInHanded {} Tryz.checked os 6 .any (Rows.fnExactAdmitStepSpec.pre6 enc Tryz.prog Tryz.f6 Rows.fnExactAdmitStepRow.domain false) (Rows.fnExactAdmitStepSpec.post enc Tryz.prog Tryz.f6 false true false false) := by
 refine returnsInHanded_of_change_sized (C := Tryz.checked) own started (by kernel_rfl) Tryz.func6
  (ChangeSpec.witness6 (enc := enc) (C := Tryz.checked) false ⟨#[], #[.agg #[.bool false, .bool false, .int .i64 0, .int .i64 0, .slice none 0 0, .slice none 0 0, .int .i64 0, .bool false, .bool false, .bool false, .int .i64 0, .int .i64 0, .int .i64 0], .slice none 0 0, .agg #[.int .i64 0, .bool false, .bool false, .bool false]], []⟩ 8 (by kernel_rfl) (by kernel_rfl) (by kernel_rfl) (by kernel_rfl)) ?_
 intro W base args ds gs before hval0 hW hcnd hsz0 _
 have hval : ∀ (j : Nat) t v, Tryz.f6.params[j]? = some t → args[j]? = some v → Value.okWide Tryz.prog W .any base t v := hval0
 have hW' := hW
 obtain ⟨p, q, hA0, hV, rfl, hfz, hnd⟩ := hW
 have hA : DataW.TrodAll enc Tryz.prog W 0 (fun _ => true) true Tryz.f6.params.toList args.toList ds p := hA0
 rw [Tryz.params6] at hA hval
 obtain ⟨v0, vs0, d0, ds0, p0, q0, hargs, rfl, rfl, h0, r0⟩ := trodAll_cons hA
 obtain ⟨v1, vs1, d1, ds1, p1, q1, rfl, rfl, rfl, h1, r1⟩ := trodAll_cons r0
 obtain ⟨v2, vs2, d2, ds2, p2, q2, rfl, rfl, rfl, h2, r2⟩ := trodAll_cons r1
 obtain ⟨rfl, rfl, rfl⟩ := trodAll_nil r2
 obtain rfl : args = #[v0, v1, v2] := by cases args; simp_all
 obtain ⟨rfl, rfl⟩ := trodVars_none hV
 have k0_ := h0
 have lt0 : ∀ x ∈ p0, x.block < W.heap.size := by obtain ⟨m, hm⟩ := k0_; exact DataW.trod_lt m _ _ _ hm
 obtain ⟨cs0, rfl, _⟩ := okWide_struct Tryz.underlying78 (hval 0 78 v0 rfl rfl)
 obtain ⟨fu0, hm0⟩ := h0
 obtain ⟨a0, y0, f0⟩ := reads78 enc W 0 _ _ fu0 _ _ hm0
 have k1_ := h1
 have lt1 : ∀ x ∈ p1, x.block < W.heap.size := by obtain ⟨m, hm⟩ := k1_; exact DataW.trod_lt m _ _ _ hm
 obtain ⟨b1, len1, cap1, rfl⟩ := okWide_slice Tryz.underlying24 (hval 1 24 v1 rfl rfl)
 obtain ⟨fu1, hm1⟩ := h1
 obtain ⟨a1, y1, f1⟩ := (Xci.row (P := Tryz.prog) Xao Xm2 Tryz.underlying24 (by kernel_rfl) (Xci.string (P := Tryz.prog) Tryz.underlying9)) enc W 0 _ _ fu1 _ _ hm1
 have k2_ := h2
 have lt2 : ∀ x ∈ p2, x.block < W.heap.size := by obtain ⟨m, hm⟩ := k2_; exact DataW.trod_lt m _ _ _ hm
 obtain ⟨cs2, rfl, _⟩ := okWide_struct Tryz.underlying63 (hval 2 63 v2 rfl rfl)
 obtain ⟨fu2, hm2⟩ := h2
 obtain ⟨a2, y2, f2⟩ := reads63 enc W 0 _ _ fu2 _ _ hm2
 clear hA0 hval0 hsz0
 have hP := Pure.FnExactAdmitStep (p0 := a0) (p1 := a1) (p2 := a2) (h0 := y0) (h1 := y1) (h2 := y2)
 refine (Yet (Xi4 hP) (us := [.agg cs0, .slice b1 len1 cap1, .agg cs2]) ⟨Ydy f0, Ygv f1, Ydy f2, trivial⟩).mono fun e W' ⟨he, bel⟩ => ?_
 subst he
 exact ⟨_, rfl, _, _, _, [], _, [], hW', trodAll_mk1 (shut_bool Tryz.underlying4 _), (trodAll_cons_mk (Below.trod laidOut (by kernel_rfl) (of_decide_eq_true (by kernel_rfl)) k0_ bel lt0) (trodAll_cons_mk (Below.trod laidOut (by kernel_rfl) (of_decide_eq_true (by kernel_rfl)) k1_ bel lt1) (trodAll_cons_mk (Below.trod laidOut (by kernel_rfl) (of_decide_eq_true (by kernel_rfl)) k2_ bel lt2) trodAll_mk0))), rfl, bel.frame _, fun h => by cases h⟩
theorem c_inPlace : (Rows.fnExactAdmitStepRow.inPlace == Tryz.prog.inPlace 6) = true := by kernel_rfl
theorem c_unfollowed : (Rows.fnExactAdmitStepRow.unfollowed == Tryz.prog.unfollowed 6) = true := by kernel_rfl
theorem c_recurses : (Rows.fnExactAdmitStepRow.recurses == Tryz.prog.recurses 6) = true := by kernel_rfl
theorem c_named : (Rows.fnExactAdmitStepRow.named == Tryz.prog.varsNamed 6) = true := by kernel_rfl
theorem c_maps : mapsRowed Tryz.prog = true := by kernel_rfl
theorem closed : joinedFacts Tryz.prog 6 Tryz.f6 Rows.fnExactAdmitStepSpec Rows.fnExactAdmitStepRow = true := by
 unfold joinedFacts
 rw [laidOut, c_maps, c_inPlace, c_unfollowed, c_recurses, c_named]
 kernel_rfl
theorem over : Rows.fnExactAdmitStepRow.holds Tryz.pinned (OpenSpec.ofChange Rows.fnExactAdmitStepSpec) :=
 OpenClaim.holds_of_wide 6 Tryz.f6 rfl rfl rfl rfl rfl rfl rfl ⟨rfl, rfl, rfl, rfl, rfl⟩ rfl rfl rfl rfl rfl (by kernel_rfl) Tryz.func6 closed
  (of_decide_eq_true (by kernel_rfl)) (by unfold Func.isWrapper; first | (rw [if_pos (by decide +kernel)]; kernel_rfl) | (rw [if_neg (by decide +kernel)]; exact ⟨rfl, rfl⟩))
  (fun os started H enc _ => lifted os started H enc)
theorem proved : Rows.FnExactAdmitStepSaid := over
#print axioms proved
end Go.Proofs.YtnhflbeahbcklabGreat.fnExactAdmitStep
namespace Go.Proofs.YtnhflbeahbcklabGreat
/-- The row, under a short name, for the claim. -/
theorem fnExactAdmitStep_holds : Rows.FnExactAdmitStepSaid := fnExactAdmitStep.proved
end Go.Proofs.YtnhflbeahbcklabGreat
