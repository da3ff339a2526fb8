/- The row of the law FnExactSentSize: for every input the law returns true, and each argument reads behind the call as it read before. Conditions: none. -/
import Derived.Test.YtlebkepfhdjnmabRows
import Derived.Test.YtlebkepfhdjnmabFFnExactSentSizex0
import Derived.Test.YtlebkepfhdjnmabPureFnExactSentSize
import Derived.WalkKit
import Derived.ProofKit
import Derived.OpenShut
import Derived.ShutString
import Derived.ChangeOld
import Derived.Below
import Derived.SizedLaws
import Derived.Carry
namespace Go.Proofs.Ytlebkepfhdjnmab.fnExactSentSize
open Go.ChangeShapes Go.WideShapes Go.ChangeAt Go.RowKit
open Go.Proofs.YtlebkepfhdjnmabAL Go.Proofs.Ytlebkepfhdjnmab.A
open Go.ChangeMaps (open_string shut_string)
set_option linter.unusedVariables false
set_option linter.unusedSimpArgs false
theorem own : ownKnob Try.prog.godebug = none := by kernel_rfl
theorem laidOut : laidOutB Try.prog = true := by kernel_rfl
theorem reads112 : Xbc Try.prog (fun x : Go.Proofs.Ytlebkepfhdjnmab.A.Square => [.int .i64 x.Kind, .int .i64 x.Mode, .int .i64 x.Dx, .int .i64 x.Dy, .ints .i64 x.Levels]) Xpo 112 :=
 Xbc.map (Xbc.struct (sz := 5) Try.underlying112 (by kernel_rfl) (Xdr.cons (sz := 1) (sz2 := 4) rfl (by kernel_rfl) (Xbc.int (P := Try.prog) Try.underlying3) (Xdr.cons (sz := 1) (sz2 := 3) rfl (by kernel_rfl) (Xbc.int (P := Try.prog) Try.underlying3) (Xdr.cons (sz := 1) (sz2 := 2) rfl (by kernel_rfl) (Xbc.int (P := Try.prog) Try.underlying3) (Xdr.cons (sz := 1) (sz2 := 1) rfl (by kernel_rfl) (Xbc.int (P := Try.prog) Try.underlying3) (Xdr.one (sz := 1) rfl (by kernel_rfl) (Xbc.ints (P := Try.prog) Try.underlying28 Try.underlying3 (by kernel_rfl))) (by kernel_rfl)) (by kernel_rfl)) (by kernel_rfl)) (by kernel_rfl))) (fun y => ⟨y.1, y.2.1, y.2.2.1, y.2.2.2.1, y.2.2.2.2⟩) (fun _ => rfl) (fun _ h => h)
theorem reads49 : Xbc Try.prog (fun x : Go.Proofs.Ytlebkepfhdjnmab.A.Cond => [.bool x.Key, .int .i64 x.Qp, .bool x.Large, .bool x.Exact]) Xsy 49 :=
 Xbc.map (Xbc.struct (sz := 4) Try.underlying49 (by kernel_rfl) (Xdr.cons (sz := 1) (sz2 := 3) rfl (by kernel_rfl) (Xbc.bool (P := Try.prog) Try.underlying4) (Xdr.cons (sz := 1) (sz2 := 2) rfl (by kernel_rfl) (Xbc.int (P := Try.prog) Try.underlying3) (Xdr.cons (sz := 1) (sz2 := 1) rfl (by kernel_rfl) (Xbc.bool (P := Try.prog) Try.underlying4) (Xdr.one (sz := 1) rfl (by kernel_rfl) (Xbc.bool (P := Try.prog) Try.underlying4)) (by kernel_rfl)) (by kernel_rfl)) (by kernel_rfl))) (fun y => ⟨y.1, y.2.1, y.2.2.1, y.2.2.2⟩) (fun _ => rfl) (fun _ h => h)
set_option maxRecDepth 100000 in
set_option maxHeartbeats 4000000 in
theorem lifted (os : Os) (started : os.Started) (H : Type) (enc : TypeId × Value → H) :
  ReturnsInHanded {} Try.checked os 5 .any (Rows.fnExactSentSizeSpec.pre6 enc Try.prog Try.f5 Rows.fnExactSentSizeRow.domain false) (Rows.fnExactSentSizeSpec.post enc Try.prog Try.f5 false true false false) := by
 refine returnsInHanded_of_change_sized (C := Try.checked) own started (by kernel_rfl) Try.func5
  (ChangeSpec.witness6 (enc := enc) (C := Try.checked) false ⟨#[], #[.slice none 0 0, .agg #[.bool false, .int .i64 0, .bool false, .bool false]], []⟩ 8 (by kernel_rfl) (by kernel_rfl) (by kernel_rfl) (by kernel_rfl)) ?_
 intro W base args ds gs before hval0 hW hcnd hsz0 _
 have hval : ∀ (j : Nat) t v, Try.f5.params[j]? = some t → args[j]? = some v → Value.okWide Try.prog W .any base t v := hval0
 have hW' := hW
 obtain ⟨p, q, hA0, hV, rfl, hfz, hnd⟩ := hW
 have hA : DataW.TrodAll enc Try.prog W 0 (fun _ => true) true Try.f5.params.toList args.toList ds p := hA0
 rw [Try.params5] at hA hval
 obtain ⟨v0, vs0, d0, ds0, p0, q0, hargs, rfl, rfl, h0, r0⟩ := trodAll_cons hA
 obtain ⟨v1, vs1, d1, ds1, p1, q1, rfl, rfl, rfl, h1, r1⟩ := trodAll_cons r0
 obtain ⟨rfl, rfl, rfl⟩ := trodAll_nil r1
 obtain rfl : args = #[v0, v1] := by cases args; simp_all
 obtain ⟨rfl, rfl⟩ := trodVars_none hV
 have k0_ := h0
 have lt0 : ∀ x ∈ p0, x.block < W.heap.size := by obtain ⟨m, hm⟩ := k0_; exact DataW.trod_lt m _ _ _ hm
 obtain ⟨b0, len0, cap0, rfl⟩ := okWide_slice Try.underlying47 (hval 0 47 v0 rfl rfl)
 obtain ⟨fu0, hm0⟩ := h0
 obtain ⟨a0, y0, f0⟩ := (Xbc.row (P := Try.prog) Xas Xg1 Try.underlying47 (by kernel_rfl) reads112) enc W 0 _ _ fu0 _ _ hm0
 have k1_ := h1
 have lt1 : ∀ x ∈ p1, x.block < W.heap.size := by obtain ⟨m, hm⟩ := k1_; exact DataW.trod_lt m _ _ _ hm
 obtain ⟨cs1, rfl, _⟩ := okWide_struct Try.underlying49 (hval 1 49 v1 rfl rfl)
 obtain ⟨fu1, hm1⟩ := h1
 obtain ⟨a1, y1, f1⟩ := reads49 enc W 0 _ _ fu1 _ _ hm1
 clear hA0 hval0 hsz0
 have hP := Pure.FnExactSentSize (p0 := a0) (p1 := a1) (h0 := y0) (h1 := y1)
 refine (Xry (Xer hP) (us := [.slice b0 len0 cap0, .agg cs1]) ⟨Xth f0, Xtf f1, trivial⟩).mono fun e W' ⟨he, bel⟩ => ?_
 subst he
 exact ⟨_, rfl, _, _, _, [], _, [], hW', trodAll_mk1 (shut_bool Try.underlying4 _), (trodAll_cons_mk (Below.trod laidOut (by kernel_rfl) (of_decide_eq_true (by kernel_rfl)) k0_ bel lt0) (trodAll_cons_mk (Below.trod laidOut (by kernel_rfl) (of_decide_eq_true (by kernel_rfl)) k1_ bel lt1) trodAll_mk0)), rfl, bel.frame _, fun h => by cases h⟩
theorem c_inPlace : (Rows.fnExactSentSizeRow.inPlace == Try.prog.inPlace 5) = true := by kernel_rfl
theorem c_unfollowed : (Rows.fnExactSentSizeRow.unfollowed == Try.prog.unfollowed 5) = true := by kernel_rfl
theorem c_recurses : (Rows.fnExactSentSizeRow.recurses == Try.prog.recurses 5) = true := by kernel_rfl
theorem c_named : (Rows.fnExactSentSizeRow.named == Try.prog.varsNamed 5) = true := by kernel_rfl
theorem c_maps : mapsRowed Try.prog = true := by kernel_rfl
theorem closed : joinedFacts Try.prog 5 Try.f5 Rows.fnExactSentSizeSpec Rows.fnExactSentSizeRow = true := by
 unfold joinedFacts
 rw [laidOut, c_maps, c_inPlace, c_unfollowed, c_recurses, c_named]
 kernel_rfl
theorem over : Rows.fnExactSentSizeRow.holds Try.pinned (OpenSpec.ofChange Rows.fnExactSentSizeSpec) :=
 OpenClaim.holds_of_wide 5 Try.f5 rfl rfl rfl rfl rfl rfl rfl ⟨rfl, rfl, rfl, rfl, rfl⟩ rfl rfl rfl rfl rfl (by kernel_rfl) Try.func5 closed
  (of_decide_eq_true (by kernel_rfl)) (by unfold Func.isWrapper; first | (rw [if_pos (by decide +kernel)]; kernel_rfl) | (rw [if_neg (by decide +kernel)]; exact ⟨rfl, rfl⟩))
  (fun os started H enc _ => lifted os started H enc)
theorem proved : Rows.FnExactSentSizeSaid := over
#print axioms proved
end Go.Proofs.Ytlebkepfhdjnmab.fnExactSentSize
namespace Go.Proofs.Ytlebkepfhdjnmab
/-- The row, under a short name, for the claim. -/
theorem fnExactSentSize_holds : Rows.FnExactSentSizeSaid := fnExactSentSize.proved
end Go.Proofs.Ytlebkepfhdjnmab
