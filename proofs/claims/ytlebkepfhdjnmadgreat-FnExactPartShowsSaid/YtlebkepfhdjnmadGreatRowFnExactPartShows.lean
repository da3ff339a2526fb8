/- The row of the law FnExactPartShows: for every input the law returns true, and each argument reads behind the call as it read before. Conditions: none. -/
import Derived.Test.YtlebkepfhdjnmadGreatRows
import Derived.Test.YtlebkepfhdjnmadGreatFFnExactPartShowsx1
import Derived.Test.YtlebkepfhdjnmadGreatPureFnExactPartShows
import Derived.WalkKit
import Derived.ProofKit
import Derived.OpenShut
import Derived.ShutString
import Derived.ChangeOld
import Derived.Below
import Derived.SizedLaws
import Derived.Carry
namespace Go.Proofs.YtlebkepfhdjnmadGreat.fnExactPartShows
open Go.ChangeShapes Go.WideShapes Go.ChangeAt Go.RowKit
open Go.Proofs.YtlebkepfhdjnmadGreatAL Go.Proofs.YtlebkepfhdjnmadGreat.A
open Go.ChangeMaps (open_string shut_string)
set_option linter.unusedVariables false
set_option linter.unusedSimpArgs false
theorem own : ownKnob Tryz.prog.godebug = none := by kernel_rfl
theorem laidOut : laidOutB Tryz.prog = true := by kernel_rfl
theorem reads23 : Xcl Tryz.prog (fun x : Go.Proofs.YtlebkepfhdjnmadGreat.A.Pic => [.int .i64 x.Wide, .int .i64 x.High, .str x.Dots]) Yli 23 :=
 Xcl.map (Xcl.struct (sz := 3) Tryz.underlying23 (by kernel_rfl) (Xf9.cons (sz := 1) (sz2 := 2) rfl (by kernel_rfl) (Xcl.int (P := Tryz.prog) Tryz.underlying3) (Xf9.cons (sz := 1) (sz2 := 1) rfl (by kernel_rfl) (Xcl.int (P := Tryz.prog) Tryz.underlying3) (Xf9.one (sz := 1) rfl (by kernel_rfl) (Xcl.string (P := Tryz.prog) Tryz.underlying9)) (by kernel_rfl)) (by kernel_rfl))) (fun y => ⟨y.1, y.2.1, y.2.2⟩) (fun _ => rfl) (fun _ h => h)
theorem reads25 : Xcl Tryz.prog (fun x : Go.Proofs.YtlebkepfhdjnmadGreat.A.Rect => [.int .i64 x.Left, .int .i64 x.Top, .int .i64 x.Wide, .int .i64 x.High]) Yjn 25 :=
 Xcl.map (Xcl.struct (sz := 4) Tryz.underlying25 (by kernel_rfl) (Xf9.cons (sz := 1) (sz2 := 3) rfl (by kernel_rfl) (Xcl.int (P := Tryz.prog) Tryz.underlying3) (Xf9.cons (sz := 1) (sz2 := 2) rfl (by kernel_rfl) (Xcl.int (P := Tryz.prog) Tryz.underlying3) (Xf9.cons (sz := 1) (sz2 := 1) rfl (by kernel_rfl) (Xcl.int (P := Tryz.prog) Tryz.underlying3) (Xf9.one (sz := 1) rfl (by kernel_rfl) (Xcl.int (P := Tryz.prog) Tryz.underlying3)) (by kernel_rfl)) (by kernel_rfl)) (by kernel_rfl))) (fun y => ⟨y.1, y.2.1, y.2.2.1, y.2.2.2⟩) (fun _ => rfl) (fun _ h => h)
theorem reads27 : Xcl Tryz.prog (fun x : Go.Proofs.YtlebkepfhdjnmadGreat.A.Par => [.int .i64 x.Qp, .bool x.Large, .bool x.Exact, .bool x.Confined]) Ylh 27 :=
 Xcl.map (Xcl.struct (sz := 4) Tryz.underlying27 (by kernel_rfl) (Xf9.cons (sz := 1) (sz2 := 3) rfl (by kernel_rfl) (Xcl.int (P := Tryz.prog) Tryz.underlying3) (Xf9.cons (sz := 1) (sz2 := 2) rfl (by kernel_rfl) (Xcl.bool (P := Tryz.prog) Tryz.underlying4) (Xf9.cons (sz := 1) (sz2 := 1) rfl (by kernel_rfl) (Xcl.bool (P := Tryz.prog) Tryz.underlying4) (Xf9.one (sz := 1) rfl (by kernel_rfl) (Xcl.bool (P := Tryz.prog) Tryz.underlying4)) (by kernel_rfl)) (by kernel_rfl)) (by kernel_rfl))) (fun y => ⟨y.1, y.2.1, y.2.2.1, y.2.2.2⟩) (fun _ => rfl) (fun _ h => h)
theorem reads29 : Xcl Tryz.prog (fun x : Go.Proofs.YtlebkepfhdjnmadGreat.A.Part => [.bool x.Key, .int .i64 x.Qp, .str x.Row]) Yjm 29 :=
 Xcl.map (Xcl.struct (sz := 3) Tryz.underlying29 (by kernel_rfl) (Xf9.cons (sz := 1) (sz2 := 2) rfl (by kernel_rfl) (Xcl.bool (P := Tryz.prog) Tryz.underlying4) (Xf9.cons (sz := 1) (sz2 := 1) rfl (by kernel_rfl) (Xcl.int (P := Tryz.prog) Tryz.underlying3) (Xf9.one (sz := 1) rfl (by kernel_rfl) (Xcl.string (P := Tryz.prog) Tryz.underlying9)) (by kernel_rfl)) (by kernel_rfl))) (fun y => ⟨y.1, y.2.1, y.2.2⟩) (fun _ => rfl) (fun _ h => h)
set_option maxRecDepth 100000 in
set_option maxHeartbeats 4000000 in
theorem lifted (os : Os) (started : os.Started) (H : Type) (enc : TypeId × Value → H) :
  ReturnsInHanded {} Tryz.checked os 3 .any (Rows.fnExactPartShowsSpec.pre6 enc Tryz.prog Tryz.f3 Rows.fnExactPartShowsRow.domain false) (Rows.fnExactPartShowsSpec.post enc Tryz.prog Tryz.f3 false true false false) := by
 refine returnsInHanded_of_change_sized (C := Tryz.checked) own started (by kernel_rfl) Tryz.func3
  (ChangeSpec.witness6 (enc := enc) (C := Tryz.checked) false ⟨#[], #[.agg #[.int .i64 0, .int .i64 0, .string ByteArray.empty], .agg #[.int .i64 0, .int .i64 0, .int .i64 0, .int .i64 0], .agg #[.int .i64 0, .bool false, .bool false, .bool false], .agg #[.bool false, .int .i64 0, .string ByteArray.empty]], []⟩ 8 (by kernel_rfl) (by kernel_rfl) (by kernel_rfl) (by kernel_rfl)) ?_
 intro W base args ds gs before hval0 hW hcnd hsz0 _
 have hval : ∀ (j : Nat) t v, Tryz.f3.params[j]? = some t → args[j]? = some v → Value.okWide Tryz.prog W .any base t v := hval0
 have hW' := hW
 obtain ⟨p, q, hA0, hV, rfl, hfz, hnd⟩ := hW
 have hA : DataW.TrodAll enc Tryz.prog W 0 (fun _ => true) true Tryz.f3.params.toList args.toList ds p := hA0
 rw [Tryz.params3] at hA hval
 obtain ⟨v0, vs0, d0, ds0, p0, q0, hargs, rfl, rfl, h0, r0⟩ := trodAll_cons hA
 obtain ⟨v1, vs1, d1, ds1, p1, q1, rfl, rfl, rfl, h1, r1⟩ := trodAll_cons r0
 obtain ⟨v2, vs2, d2, ds2, p2, q2, rfl, rfl, rfl, h2, r2⟩ := trodAll_cons r1
 obtain ⟨v3, vs3, d3, ds3, p3, q3, rfl, rfl, rfl, h3, r3⟩ := trodAll_cons r2
 obtain ⟨rfl, rfl, rfl⟩ := trodAll_nil r3
 obtain rfl : args = #[v0, v1, v2, v3] := by cases args; simp_all
 obtain ⟨rfl, rfl⟩ := trodVars_none hV
 have k0_ := h0
 have lt0 : ∀ x ∈ p0, x.block < W.heap.size := by obtain ⟨m, hm⟩ := k0_; exact DataW.trod_lt m _ _ _ hm
 obtain ⟨cs0, rfl, _⟩ := okWide_struct Tryz.underlying23 (hval 0 23 v0 rfl rfl)
 obtain ⟨fu0, hm0⟩ := h0
 obtain ⟨a0, y0, f0⟩ := reads23 enc W 0 _ _ fu0 _ _ hm0
 have k1_ := h1
 have lt1 : ∀ x ∈ p1, x.block < W.heap.size := by obtain ⟨m, hm⟩ := k1_; exact DataW.trod_lt m _ _ _ hm
 obtain ⟨cs1, rfl, _⟩ := okWide_struct Tryz.underlying25 (hval 1 25 v1 rfl rfl)
 obtain ⟨fu1, hm1⟩ := h1
 obtain ⟨a1, y1, f1⟩ := reads25 enc W 0 _ _ fu1 _ _ hm1
 have k2_ := h2
 have lt2 : ∀ x ∈ p2, x.block < W.heap.size := by obtain ⟨m, hm⟩ := k2_; exact DataW.trod_lt m _ _ _ hm
 obtain ⟨cs2, rfl, _⟩ := okWide_struct Tryz.underlying27 (hval 2 27 v2 rfl rfl)
 obtain ⟨fu2, hm2⟩ := h2
 obtain ⟨a2, y2, f2⟩ := reads27 enc W 0 _ _ fu2 _ _ hm2
 have k3_ := h3
 have lt3 : ∀ x ∈ p3, x.block < W.heap.size := by obtain ⟨m, hm⟩ := k3_; exact DataW.trod_lt m _ _ _ hm
 obtain ⟨cs3, rfl, _⟩ := okWide_struct Tryz.underlying29 (hval 3 29 v3 rfl rfl)
 obtain ⟨fu3, hm3⟩ := h3
 obtain ⟨a3, y3, f3⟩ := reads29 enc W 0 _ _ fu3 _ _ hm3
 clear hA0 hval0 hsz0
 have hP := Pure.FnExactPartShows (p0 := a0) (p1 := a1) (p2 := a2) (p3 := a3) (h0 := y0) (h1 := y1) (h2 := y2) (h3 := y3)
 refine (Yh8 (Xkc hP) (us := [.agg cs0, .agg cs1, .agg cs2, .agg cs3]) ⟨Yan f0, Yan f1, Yan f2, Yan f3, trivial⟩).mono fun e W' ⟨he, bel⟩ => ?_
 subst he
 exact ⟨_, rfl, _, _, _, [], _, [], hW', trodAll_mk1 (shut_bool Tryz.underlying4 _), (trodAll_cons_mk (Below.trod laidOut (by kernel_rfl) (of_decide_eq_true (by kernel_rfl)) k0_ bel lt0) (trodAll_cons_mk (Below.trod laidOut (by kernel_rfl) (of_decide_eq_true (by kernel_rfl)) k1_ bel lt1) (trodAll_cons_mk (Below.trod laidOut (by kernel_rfl) (of_decide_eq_true (by kernel_rfl)) k2_ bel lt2) (trodAll_cons_mk (Below.trod laidOut (by kernel_rfl) (of_decide_eq_true (by kernel_rfl)) k3_ bel lt3) trodAll_mk0)))), rfl, bel.frame _, fun h => by cases h⟩
theorem c_inPlace : (Rows.fnExactPartShowsRow.inPlace == Tryz.prog.inPlace 3) = true := by kernel_rfl
theorem c_unfollowed : (Rows.fnExactPartShowsRow.unfollowed == Tryz.prog.unfollowed 3) = true := by kernel_rfl
theorem c_recurses : (Rows.fnExactPartShowsRow.recurses == Tryz.prog.recurses 3) = true := by kernel_rfl
theorem c_named : (Rows.fnExactPartShowsRow.named == Tryz.prog.varsNamed 3) = true := by kernel_rfl
theorem c_maps : mapsRowed Tryz.prog = true := by kernel_rfl
theorem closed : joinedFacts Tryz.prog 3 Tryz.f3 Rows.fnExactPartShowsSpec Rows.fnExactPartShowsRow = true := by
 unfold joinedFacts
 rw [laidOut, c_maps, c_inPlace, c_unfollowed, c_recurses, c_named]
 kernel_rfl
theorem over : Rows.fnExactPartShowsRow.holds Tryz.pinned (OpenSpec.ofChange Rows.fnExactPartShowsSpec) :=
 OpenClaim.holds_of_wide 3 Tryz.f3 rfl rfl rfl rfl rfl rfl rfl ⟨rfl, rfl, rfl, rfl, rfl⟩ rfl rfl rfl rfl rfl (by kernel_rfl) Tryz.func3 closed
  (of_decide_eq_true (by kernel_rfl)) (by unfold Func.isWrapper; first | (rw [if_pos (by decide +kernel)]; kernel_rfl) | (rw [if_neg (by decide +kernel)]; exact ⟨rfl, rfl⟩))
  (fun os started H enc _ => lifted os started H enc)
theorem proved : Rows.FnExactPartShowsSaid := over
#print axioms proved
end Go.Proofs.YtlebkepfhdjnmadGreat.fnExactPartShows
namespace Go.Proofs.YtlebkepfhdjnmadGreat
/-- The row, under a short name, for the claim. -/
theorem fnExactPartShows_holds : Rows.FnExactPartShowsSaid := fnExactPartShows.proved
end Go.Proofs.YtlebkepfhdjnmadGreat
