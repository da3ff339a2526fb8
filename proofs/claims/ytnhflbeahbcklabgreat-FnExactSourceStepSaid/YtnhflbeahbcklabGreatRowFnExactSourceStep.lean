/- The row of the law FnExactSourceStep: for every input the law returns true, and each argument reads behind the call as it read before. Conditions: none. -/
import Derived.Test.YtnhflbeahbcklabGreatRows
import Derived.Test.YtnhflbeahbcklabGreatFFnExactSourceStepx2
import Derived.Test.YtnhflbeahbcklabGreatPureFnExactSourceStep
import Derived.WalkKit
import Derived.ProofKit
import Derived.OpenShut
import Derived.ShutString
import Derived.ChangeOld
import Derived.Below
import Derived.SizedLaws
import Derived.Carry
namespace Go.Proofs.YtnhflbeahbcklabGreat.fnExactSourceStep
open Go.ChangeShapes Go.WideShapes Go.ChangeAt Go.RowKit
open Go.Proofs.YtnhflbeahbcklabGreatAL Go.Proofs.YtnhflbeahbcklabGreat.A
open Go.ChangeMaps (open_string shut_string)
set_option linter.unusedVariables false
set_option linter.unusedSimpArgs false
theorem own : ownKnob Tryz.prog.godebug = none := by kernel_rfl
theorem laidOut : laidOutB Tryz.prog = true := by kernel_rfl
theorem reads62 : Xcn Tryz.prog (fun x : Go.Proofs.YtnhflbeahbcklabGreat.A.Seq => [.int .i64 x.Level, .int .i64 x.Bits, .ints .i64 x.Cols, .ints .i64 x.Rows]) Zcy 62 :=
 Xcn.map (Xcn.struct (sz := 4) Tryz.underlying62 (by kernel_rfl) (Xez.cons (sz := 1) (sz2 := 3) rfl (by kernel_rfl) (Xcn.int (P := Tryz.prog) Tryz.underlying3) (Xez.cons (sz := 1) (sz2 := 2) rfl (by kernel_rfl) (Xcn.int (P := Tryz.prog) Tryz.underlying3) (Xez.cons (sz := 1) (sz2 := 1) rfl (by kernel_rfl) (Xcn.ints (P := Tryz.prog) Tryz.underlying29 Tryz.underlying3 (by kernel_rfl)) (Xez.one (sz := 1) rfl (by kernel_rfl) (Xcn.ints (P := Tryz.prog) Tryz.underlying29 Tryz.underlying3 (by kernel_rfl))) (by kernel_rfl)) (by kernel_rfl)) (by kernel_rfl))) (fun y => ⟨y.1, y.2.1, y.2.2.1, y.2.2.2⟩) (fun _ => rfl) (fun _ h => h)
theorem reads63 : Xcn Tryz.prog (fun x : Go.Proofs.YtnhflbeahbcklabGreat.A.Par => [.int .i64 x.Qp, .bool x.Large, .bool x.Exact, .bool x.Confined]) Zfx 63 :=
 Xcn.map (Xcn.struct (sz := 4) Tryz.underlying63 (by kernel_rfl) (Xez.cons (sz := 1) (sz2 := 3) rfl (by kernel_rfl) (Xcn.int (P := Tryz.prog) Tryz.underlying3) (Xez.cons (sz := 1) (sz2 := 2) rfl (by kernel_rfl) (Xcn.bool (P := Tryz.prog) Tryz.underlying4) (Xez.cons (sz := 1) (sz2 := 1) rfl (by kernel_rfl) (Xcn.bool (P := Tryz.prog) Tryz.underlying4) (Xez.one (sz := 1) rfl (by kernel_rfl) (Xcn.bool (P := Tryz.prog) Tryz.underlying4)) (by kernel_rfl)) (by kernel_rfl)) (by kernel_rfl))) (fun y => ⟨y.1, y.2.1, y.2.2.1, y.2.2.2⟩) (fun _ => rfl) (fun _ h => h)
theorem reads64 : Xcn Tryz.prog (fun x : Go.Proofs.YtnhflbeahbcklabGreat.A.Rate => [.int .i64 x.Qp, .int .i64 x.Target, .int .i64 x.Debt]) Zdz 64 :=
 Xcn.map (Xcn.struct (sz := 3) Tryz.underlying64 (by kernel_rfl) (Xez.cons (sz := 1) (sz2 := 2) rfl (by kernel_rfl) (Xcn.int (P := Tryz.prog) Tryz.underlying3) (Xez.cons (sz := 1) (sz2 := 1) rfl (by kernel_rfl) (Xcn.int (P := Tryz.prog) Tryz.underlying3) (Xez.one (sz := 1) rfl (by kernel_rfl) (Xcn.int (P := Tryz.prog) Tryz.underlying3)) (by kernel_rfl)) (by kernel_rfl))) (fun y => ⟨y.1, y.2.1, y.2.2⟩) (fun _ => rfl) (fun _ h => h)
theorem reads65 : Xcn Tryz.prog (fun x : Go.Proofs.YtnhflbeahbcklabGreat.A.Pic => [.int .i64 x.Wide, .int .i64 x.High, .str x.Dots]) Zcx 65 :=
 Xcn.map (Xcn.struct (sz := 3) Tryz.underlying65 (by kernel_rfl) (Xez.cons (sz := 1) (sz2 := 2) rfl (by kernel_rfl) (Xcn.int (P := Tryz.prog) Tryz.underlying3) (Xez.cons (sz := 1) (sz2 := 1) rfl (by kernel_rfl) (Xcn.int (P := Tryz.prog) Tryz.underlying3) (Xez.one (sz := 1) rfl (by kernel_rfl) (Xcn.string (P := Tryz.prog) Tryz.underlying9)) (by kernel_rfl)) (by kernel_rfl))) (fun y => ⟨y.1, y.2.1, y.2.2⟩) (fun _ => rfl) (fun _ h => h)
theorem reads67 : Xcn Tryz.prog (fun x : Go.Proofs.YtnhflbeahbcklabGreat.A.Source => [.int .i64 x.Seq.Level, .int .i64 x.Seq.Bits, .ints .i64 x.Seq.Cols, .ints .i64 x.Seq.Rows, .int .i64 x.Par.Qp, .bool x.Par.Large, .bool x.Par.Exact, .bool x.Par.Confined, .int .i64 x.Rate.Qp, .int .i64 x.Rate.Target, .int .i64 x.Rate.Debt, .int .i64 x.Frame, .int .i64 x.Since, .int .i64 x.Every, .int .i64 x.Reach, .bool x.Has, .int .i64 x.Ref.Wide, .int .i64 x.Ref.High, .str x.Ref.Dots]) Ya9 67 :=
 Xcn.map (Xcn.struct (sz := 19) Tryz.underlying67 (by kernel_rfl) (Xez.cons (sz := 4) (sz2 := 15) rfl (by kernel_rfl) reads62 (Xez.cons (sz := 4) (sz2 := 11) rfl (by kernel_rfl) reads63 (Xez.cons (sz := 3) (sz2 := 8) rfl (by kernel_rfl) reads64 (Xez.cons (sz := 1) (sz2 := 7) rfl (by kernel_rfl) (Xcn.int (P := Tryz.prog) Tryz.underlying3) (Xez.cons (sz := 1) (sz2 := 6) rfl (by kernel_rfl) (Xcn.int (P := Tryz.prog) Tryz.underlying3) (Xez.cons (sz := 1) (sz2 := 5) rfl (by kernel_rfl) (Xcn.int (P := Tryz.prog) Tryz.underlying3) (Xez.cons (sz := 1) (sz2 := 4) rfl (by kernel_rfl) (Xcn.int (P := Tryz.prog) Tryz.underlying3) (Xez.cons (sz := 1) (sz2 := 3) rfl (by kernel_rfl) (Xcn.bool (P := Tryz.prog) Tryz.underlying4) (Xez.one (sz := 3) rfl (by kernel_rfl) reads65) (by kernel_rfl)) (by kernel_rfl)) (by kernel_rfl)) (by kernel_rfl)) (by kernel_rfl)) (by kernel_rfl)) (by kernel_rfl)) (by kernel_rfl))) (fun y => ⟨y.1, y.2.1, y.2.2.1, y.2.2.2.1, y.2.2.2.2.1, y.2.2.2.2.2.1, y.2.2.2.2.2.2.1, y.2.2.2.2.2.2.2.1, y.2.2.2.2.2.2.2.2⟩) (fun _ => rfl) (fun _ h => h)
set_option maxRecDepth 100000 in
set_option maxHeartbeats 4000000 in
theorem lifted (os : Os) (started : os.Started) (H : Type) (enc : TypeId × Value → H) :
  ReturnsInHanded {} Tryz.checked os 5 .any (Rows.fnExactSourceStepSpec.pre6 enc Tryz.prog Tryz.f5 Rows.fnExactSourceStepRow.domain false) (Rows.fnExactSourceStepSpec.post enc Tryz.prog Tryz.f5 false true false false) := by
 refine returnsInHanded_of_change_sized (C := Tryz.checked) own started (by kernel_rfl) Tryz.func5
  (ChangeSpec.witness6 (enc := enc) (C := Tryz.checked) false ⟨#[], #[.agg #[.int .i64 0, .int .i64 0, .slice none 0 0, .slice none 0 0, .int .i64 0, .bool false, .bool false, .bool false, .int .i64 0, .int .i64 0, .int .i64 0, .int .i64 0, .int .i64 0, .int .i64 0, .int .i64 0, .bool false, .int .i64 0, .int .i64 0, .string ByteArray.empty], .agg #[.int .i64 0, .int .i64 0, .string ByteArray.empty], .bool false], []⟩ 8 (by kernel_rfl) (by kernel_rfl) (by kernel_rfl) (by kernel_rfl)) ?_
 intro W base args ds gs before hval0 hW hcnd hsz0 _
 have hval : ∀ (j : Nat) t v, Tryz.f5.params[j]? = some t → args[j]? = some v → Value.okWide Tryz.prog W .any base t v := hval0
 have hW' := hW
 obtain ⟨p, q, hA0, hV, rfl, hfz, hnd⟩ := hW
 have hA : DataW.TrodAll enc Tryz.prog W 0 (fun _ => true) true Tryz.f5.params.toList args.toList ds p := hA0
 rw [Tryz.params5] at hA hval
 obtain ⟨v0, vs0, d0, ds0, p0, q0, hargs, rfl, rfl, h0, r0⟩ := trodAll_cons hA
 obtain ⟨v1, vs1, d1, ds1, p1, q1, rfl, rfl, rfl, h1, r1⟩ := trodAll_cons r0
 obtain ⟨v2, vs2, d2, ds2, p2, q2, rfl, rfl, rfl, h2, r2⟩ := trodAll_cons r1
 obtain ⟨rfl, rfl, rfl⟩ := trodAll_nil r2
 obtain rfl : args = #[v0, v1, v2] := by cases args; simp_all
 obtain ⟨rfl, rfl⟩ := trodVars_none hV
 have k0_ := h0
 have lt0 : ∀ x ∈ p0, x.block < W.heap.size := by obtain ⟨m, hm⟩ := k0_; exact DataW.trod_lt m _ _ _ hm
 obtain ⟨cs0, rfl, _⟩ := okWide_struct Tryz.underlying67 (hval 0 67 v0 rfl rfl)
 obtain ⟨fu0, hm0⟩ := h0
 obtain ⟨a0, y0, f0⟩ := reads67 enc W 0 _ _ fu0 _ _ hm0
 have k1_ := h1
 have lt1 : ∀ x ∈ p1, x.block < W.heap.size := by obtain ⟨m, hm⟩ := k1_; exact DataW.trod_lt m _ _ _ hm
 obtain ⟨cs1, rfl, _⟩ := okWide_struct Tryz.underlying65 (hval 1 65 v1 rfl rfl)
 obtain ⟨fu1, hm1⟩ := h1
 obtain ⟨a1, y1, f1⟩ := reads65 enc W 0 _ _ fu1 _ _ hm1
 obtain ⟨a2, rfl, rfl, rfl⟩ := open_bool Tryz.underlying4 (hval 2 4 v2 rfl rfl) h2
 clear hA0 hval0 hsz0
 have hP := Pure.FnExactSourceStep (p0 := a0) (p1 := a1) (p2 := a2) (h0 := y0) (h1 := y1)
 refine (Zb9 (Xq8 hP) (us := [.agg cs0, .agg cs1, .bool a2]) ⟨Za7 f0, Za7 f1, .sv (.bool _), trivial⟩).mono fun e W' ⟨he, bel⟩ => ?_
 subst he
 exact ⟨_, rfl, _, _, _, [], _, [], hW', trodAll_mk1 (shut_bool Tryz.underlying4 _), (trodAll_cons_mk (Below.trod laidOut (by kernel_rfl) (of_decide_eq_true (by kernel_rfl)) k0_ bel lt0) (trodAll_cons_mk (Below.trod laidOut (by kernel_rfl) (of_decide_eq_true (by kernel_rfl)) k1_ bel lt1) (trodAll_cons_mk (shut_bool Tryz.underlying4 _) trodAll_mk0))), rfl, bel.frame _, fun h => by cases h⟩
theorem c_inPlace : (Rows.fnExactSourceStepRow.inPlace == Tryz.prog.inPlace 5) = true := by kernel_rfl
theorem c_unfollowed : (Rows.fnExactSourceStepRow.unfollowed == Tryz.prog.unfollowed 5) = true := by kernel_rfl
theorem c_recurses : (Rows.fnExactSourceStepRow.recurses == Tryz.prog.recurses 5) = true := by kernel_rfl
theorem c_named : (Rows.fnExactSourceStepRow.named == Tryz.prog.varsNamed 5) = true := by kernel_rfl
theorem c_maps : mapsRowed Tryz.prog = true := by kernel_rfl
theorem closed : joinedFacts Tryz.prog 5 Tryz.f5 Rows.fnExactSourceStepSpec Rows.fnExactSourceStepRow = true := by
 unfold joinedFacts
 rw [laidOut, c_maps, c_inPlace, c_unfollowed, c_recurses, c_named]
 kernel_rfl
theorem over : Rows.fnExactSourceStepRow.holds Tryz.pinned (OpenSpec.ofChange Rows.fnExactSourceStepSpec) :=
 OpenClaim.holds_of_wide 5 Tryz.f5 rfl rfl rfl rfl rfl rfl rfl ⟨rfl, rfl, rfl, rfl, rfl⟩ rfl rfl rfl rfl rfl (by kernel_rfl) Tryz.func5 closed
  (of_decide_eq_true (by kernel_rfl)) (by unfold Func.isWrapper; first | (rw [if_pos (by decide +kernel)]; kernel_rfl) | (rw [if_neg (by decide +kernel)]; exact ⟨rfl, rfl⟩))
  (fun os started H enc _ => lifted os started H enc)
theorem proved : Rows.FnExactSourceStepSaid := over
#print axioms proved
end Go.Proofs.YtnhflbeahbcklabGreat.fnExactSourceStep
namespace Go.Proofs.YtnhflbeahbcklabGreat
/-- The row, under a short name, for the claim. -/
theorem fnExactSourceStep_holds : Rows.FnExactSourceStepSaid := fnExactSourceStep.proved
end Go.Proofs.YtnhflbeahbcklabGreat
