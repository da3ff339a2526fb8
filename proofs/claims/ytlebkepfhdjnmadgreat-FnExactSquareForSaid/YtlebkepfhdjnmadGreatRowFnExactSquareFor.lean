/- The row of the law FnExactSquareFor: for every input the law returns true, and each argument reads behind the call as it read before. Conditions: none. -/
import Derived.Test.YtlebkepfhdjnmadGreatRows
import Derived.Test.YtlebkepfhdjnmadGreatFFnExactSquareForx1
import Derived.Test.YtlebkepfhdjnmadGreatPureFnExactSquareFor
import Derived.WalkKit
import Derived.ProofKit
import Derived.OpenShut
import Derived.ShutString
import Derived.ChangeOld
import Derived.Below
import Derived.SizedLaws
import Derived.Carry
namespace Go.Proofs.YtlebkepfhdjnmadGreat.fnExactSquareFor
open Go.ChangeShapes Go.WideShapes Go.ChangeAt Go.RowKit
open Go.Proofs.YtlebkepfhdjnmadGreatAL Go.Proofs.YtlebkepfhdjnmadGreat.A
open Go.ChangeMaps (open_string shut_string)
set_option linter.unusedVariables false
set_option linter.unusedSimpArgs false
theorem own : ownKnob Tryz.prog.godebug = none := by kernel_rfl
theorem laidOut : laidOutB Tryz.prog = true := by kernel_rfl
theorem reads23 : Xem Tryz.prog (fun x : Go.Proofs.YtlebkepfhdjnmadGreat.A.Pic => [.int .i64 x.Wide, .int .i64 x.High, .str x.Dots]) Ymo 23 :=
 Xem.map (Xem.struct (sz := 3) Tryz.underlying23 (by kernel_rfl) (Xlw.cons (sz := 1) (sz2 := 2) rfl (by kernel_rfl) (Xem.int (P := Tryz.prog) Tryz.underlying3) (Xlw.cons (sz := 1) (sz2 := 1) rfl (by kernel_rfl) (Xem.int (P := Tryz.prog) Tryz.underlying3) (Xlw.one (sz := 1) rfl (by kernel_rfl) (Xem.string (P := Tryz.prog) Tryz.underlying9)) (by kernel_rfl)) (by kernel_rfl))) (fun y => ⟨y.1, y.2.1, y.2.2⟩) (fun _ => rfl) (fun _ h => h)
theorem reads46 : Xem Tryz.prog (fun x : Go.Proofs.YtlebkepfhdjnmadGreat.A.Cond => [.bool x.Key, .int .i64 x.Qp, .bool x.Large, .bool x.Exact]) Yl2 46 :=
 Xem.map (Xem.struct (sz := 4) Tryz.underlying46 (by kernel_rfl) (Xlw.cons (sz := 1) (sz2 := 3) rfl (by kernel_rfl) (Xem.bool (P := Tryz.prog) Tryz.underlying4) (Xlw.cons (sz := 1) (sz2 := 2) rfl (by kernel_rfl) (Xem.int (P := Tryz.prog) Tryz.underlying3) (Xlw.cons (sz := 1) (sz2 := 1) rfl (by kernel_rfl) (Xem.bool (P := Tryz.prog) Tryz.underlying4) (Xlw.one (sz := 1) rfl (by kernel_rfl) (Xem.bool (P := Tryz.prog) Tryz.underlying4)) (by kernel_rfl)) (by kernel_rfl)) (by kernel_rfl))) (fun y => ⟨y.1, y.2.1, y.2.2.1, y.2.2.2⟩) (fun _ => rfl) (fun _ h => h)
set_option maxRecDepth 100000 in
set_option maxHeartbeats 4000000 in
theorem lifted (os : Os) (started : os.Started) (H : Type) (enc : TypeId × Value → H) :
  ReturnsInHanded {} Tryz.checked os 4 .any (Rows.fnExactSquareForSpec.pre6 enc Tryz.prog Tryz.f4 Rows.fnExactSquareForRow.domain false) (Rows.fnExactSquareForSpec.post enc Tryz.prog Tryz.f4 false true false false) := by
 refine returnsInHanded_of_change_sized (C := Tryz.checked) own started (by kernel_rfl) Tryz.func4
  (ChangeSpec.witness6 (enc := enc) (C := Tryz.checked) false ⟨#[], #[.agg #[.int .i64 0, .int .i64 0, .string ByteArray.empty], .agg #[.int .i64 0, .int .i64 0, .string ByteArray.empty], .slice none 0 0, .int .i64 0, .int .i64 0, .agg #[.bool false, .int .i64 0, .bool false, .bool false], .int .i64 0], []⟩ 8 (by kernel_rfl) (by kernel_rfl) (by kernel_rfl) (by kernel_rfl)) ?_
 intro W base args ds gs before hval0 hW hcnd hsz0 _
 have hval : ∀ (j : Nat) t v, Tryz.f4.params[j]? = some t → args[j]? = some v → Value.okWide Tryz.prog W .any base t v := hval0
 have hW' := hW
 obtain ⟨p, q, hA0, hV, rfl, hfz, hnd⟩ := hW
 have hA : DataW.TrodAll enc Tryz.prog W 0 (fun _ => true) true Tryz.f4.params.toList args.toList ds p := hA0
 rw [Tryz.params4] at hA hval
 obtain ⟨v0, vs0, d0, ds0, p0, q0, hargs, rfl, rfl, h0, r0⟩ := trodAll_cons hA
 obtain ⟨v1, vs1, d1, ds1, p1, q1, rfl, rfl, rfl, h1, r1⟩ := trodAll_cons r0
 obtain ⟨v2, vs2, d2, ds2, p2, q2, rfl, rfl, rfl, h2, r2⟩ := trodAll_cons r1
 obtain ⟨v3, vs3, d3, ds3, p3, q3, rfl, rfl, rfl, h3, r3⟩ := trodAll_cons r2
 obtain ⟨v4, vs4, d4, ds4, p4, q4, rfl, rfl, rfl, h4, r4⟩ := trodAll_cons r3
 obtain ⟨v5, vs5, d5, ds5, p5, q5, rfl, rfl, rfl, h5, r5⟩ := trodAll_cons r4
 obtain ⟨v6, vs6, d6, ds6, p6, q6, rfl, rfl, rfl, h6, r6⟩ := trodAll_cons r5
 obtain ⟨rfl, rfl, rfl⟩ := trodAll_nil r6
 obtain rfl : args = #[v0, v1, v2, v3, v4, v5, v6] := by cases args; simp_all
 obtain ⟨rfl, rfl⟩ := trodVars_none hV
 have k0_ := h0
 have lt0 : ∀ x ∈ p0, x.block < W.heap.size := by obtain ⟨m, hm⟩ := k0_; exact DataW.trod_lt m _ _ _ hm
 obtain ⟨cs0, rfl, _⟩ := okWide_struct Tryz.underlying23 (hval 0 23 v0 rfl rfl)
 obtain ⟨fu0, hm0⟩ := h0
 obtain ⟨a0, y0, f0⟩ := reads23 enc W 0 _ _ fu0 _ _ hm0
 have k1_ := h1
 have lt1 : ∀ x ∈ p1, x.block < W.heap.size := by obtain ⟨m, hm⟩ := k1_; exact DataW.trod_lt m _ _ _ hm
 obtain ⟨cs1, rfl, _⟩ := okWide_struct Tryz.underlying23 (hval 1 23 v1 rfl rfl)
 obtain ⟨fu1, hm1⟩ := h1
 obtain ⟨a1, y1, f1⟩ := reads23 enc W 0 _ _ fu1 _ _ hm1
 have k2_ := h2
 have lt2 : ∀ x ∈ p2, x.block < W.heap.size := by obtain ⟨m, hm⟩ := k2_; exact DataW.trod_lt m _ _ _ hm
 obtain ⟨b2, len2, cap2, rfl⟩ := okWide_slice Tryz.underlying44 (hval 2 44 v2 rfl rfl)
 obtain ⟨fu2, hm2⟩ := h2
 obtain ⟨a2, y2, f2⟩ := (Xem.ints (P := Tryz.prog) Tryz.underlying44 Tryz.underlying3 (by kernel_rfl)) enc W 0 _ _ fu2 _ _ hm2
 obtain ⟨a3, rfl, rfl, rfl, w3⟩ := open_int Tryz.underlying3 (hval 3 3 v3 rfl rfl) h3
 obtain ⟨a4, rfl, rfl, rfl, w4⟩ := open_int Tryz.underlying3 (hval 4 3 v4 rfl rfl) h4
 have k5_ := h5
 have lt5 : ∀ x ∈ p5, x.block < W.heap.size := by obtain ⟨m, hm⟩ := k5_; exact DataW.trod_lt m _ _ _ hm
 obtain ⟨cs5, rfl, _⟩ := okWide_struct Tryz.underlying46 (hval 5 46 v5 rfl rfl)
 obtain ⟨fu5, hm5⟩ := h5
 obtain ⟨a5, y5, f5⟩ := reads46 enc W 0 _ _ fu5 _ _ hm5
 obtain ⟨a6, rfl, rfl, rfl, w6⟩ := open_int Tryz.underlying3 (hval 6 3 v6 rfl rfl) h6
 clear hA0 hval0 hsz0
 have hP := Pure.FnExactSquareFor (p0 := a0) (p1 := a1) (p2 := a2) (p3 := a3) (p4 := a4) (p5 := a5) (p6 := a6) (h0 := y0) (h1 := y1) (h2 := y2) (h3 := w3) (h4 := w4) (h5 := y5) (h6 := w6)
 refine (Ykm (Xl8 hP) (us := [.agg cs0, .agg cs1, .slice b2 len2 cap2, .int .i64 a3, .int .i64 a4, .agg cs5, .int .i64 a6]) ⟨Ygl f0, Ygl f1, Ymq f2, .sv (.int _ _), .sv (.int _ _), Ygl f5, .sv (.int _ _), trivial⟩).mono fun e W' ⟨he, bel⟩ => ?_
 subst he
 exact ⟨_, rfl, _, _, _, [], _, [], hW', trodAll_mk1 (shut_bool Tryz.underlying4 _), (trodAll_cons_mk (Below.trod laidOut (by kernel_rfl) (of_decide_eq_true (by kernel_rfl)) k0_ bel lt0) (trodAll_cons_mk (Below.trod laidOut (by kernel_rfl) (of_decide_eq_true (by kernel_rfl)) k1_ bel lt1) (trodAll_cons_mk (Below.trod laidOut (by kernel_rfl) (of_decide_eq_true (by kernel_rfl)) k2_ bel lt2) (trodAll_cons_mk (shut_int Tryz.underlying3 w3) (trodAll_cons_mk (shut_int Tryz.underlying3 w4) (trodAll_cons_mk (Below.trod laidOut (by kernel_rfl) (of_decide_eq_true (by kernel_rfl)) k5_ bel lt5) (trodAll_cons_mk (shut_int Tryz.underlying3 w6) trodAll_mk0))))))), rfl, bel.frame _, fun h => by cases h⟩
theorem c_inPlace : (Rows.fnExactSquareForRow.inPlace == Tryz.prog.inPlace 4) = true := by kernel_rfl
theorem c_unfollowed : (Rows.fnExactSquareForRow.unfollowed == Tryz.prog.unfollowed 4) = true := by kernel_rfl
theorem c_recurses : (Rows.fnExactSquareForRow.recurses == Tryz.prog.recurses 4) = true := by kernel_rfl
theorem c_named : (Rows.fnExactSquareForRow.named == Tryz.prog.varsNamed 4) = true := by kernel_rfl
theorem c_maps : mapsRowed Tryz.prog = true := by kernel_rfl
theorem closed : joinedFacts Tryz.prog 4 Tryz.f4 Rows.fnExactSquareForSpec Rows.fnExactSquareForRow = true := by
 unfold joinedFacts
 rw [laidOut, c_maps, c_inPlace, c_unfollowed, c_recurses, c_named]
 kernel_rfl
theorem over : Rows.fnExactSquareForRow.holds Tryz.pinned (OpenSpec.ofChange Rows.fnExactSquareForSpec) :=
 OpenClaim.holds_of_wide 4 Tryz.f4 rfl rfl rfl rfl rfl rfl rfl ⟨rfl, rfl, rfl, rfl, rfl⟩ rfl rfl rfl rfl rfl (by kernel_rfl) Tryz.func4 closed
  (of_decide_eq_true (by kernel_rfl)) (by unfold Func.isWrapper; first | (rw [if_pos (by decide +kernel)]; kernel_rfl) | (rw [if_neg (by decide +kernel)]; exact ⟨rfl, rfl⟩))
  (fun os started H enc _ => lifted os started H enc)
theorem proved : Rows.FnExactSquareForSaid := over
#print axioms proved
end Go.Proofs.YtlebkepfhdjnmadGreat.fnExactSquareFor
namespace Go.Proofs.YtlebkepfhdjnmadGreat
/-- The row, under a short name, for the claim. -/
theorem fnExactSquareFor_holds : Rows.FnExactSquareForSaid := fnExactSquareFor.proved
end Go.Proofs.YtlebkepfhdjnmadGreat
