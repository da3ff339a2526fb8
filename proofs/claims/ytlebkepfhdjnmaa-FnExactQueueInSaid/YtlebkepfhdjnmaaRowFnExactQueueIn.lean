/- The row of the law FnExactQueueIn: for every input the law returns true, and each argument reads behind the call as it read before. Conditions: none. -/
import Derived.Test.YtlebkepfhdjnmaaRows
import Derived.Test.YtlebkepfhdjnmaaFFnExactQueueInx0
import Derived.Test.YtlebkepfhdjnmaaPureFnExactQueueIn
import Derived.WalkKit
import Derived.ProofKit
import Derived.OpenShut
import Derived.ShutString
import Derived.ChangeOld
import Derived.Below
import Derived.SizedLaws
import Derived.Carry
namespace Go.Proofs.Ytlebkepfhdjnmaa.fnExactQueueIn
open Go.ChangeShapes Go.WideShapes Go.ChangeAt Go.RowKit
open Go.Proofs.YtlebkepfhdjnmaaAL Go.Proofs.Ytlebkepfhdjnmaa.A
open Go.ChangeMaps (open_string shut_string)
set_option linter.unusedVariables false
set_option linter.unusedSimpArgs false
theorem own : ownKnob Try.prog.godebug = none := by kernel_rfl
theorem laidOut : laidOutB Try.prog = true := by kernel_rfl
theorem reads53 : Xbe Try.prog (fun x : Go.Proofs.Ytlebkepfhdjnmaa.A.Packet => [.int .i64 x.Seq, .bool x.First, .bool x.Last, .str x.Bytes]) Xl6 53 :=
 Xbe.map (Xbe.struct (sz := 4) Try.underlying53 (by kernel_rfl) (Xcv.cons (sz := 1) (sz2 := 3) rfl (by kernel_rfl) (Xbe.int (P := Try.prog) Try.underlying3) (Xcv.cons (sz := 1) (sz2 := 2) rfl (by kernel_rfl) (Xbe.bool (P := Try.prog) Try.underlying4) (Xcv.cons (sz := 1) (sz2 := 1) rfl (by kernel_rfl) (Xbe.bool (P := Try.prog) Try.underlying4) (Xcv.one (sz := 1) rfl (by kernel_rfl) (Xbe.string (P := Try.prog) Try.underlying9)) (by kernel_rfl)) (by kernel_rfl)) (by kernel_rfl))) (fun y => ⟨y.1, y.2.1, y.2.2.1, y.2.2.2⟩) (fun _ => rfl) (fun _ h => h)
theorem reads36 : Xbe Try.prog (fun x : Go.Proofs.Ytlebkepfhdjnmaa.A.Queue => [.bool x.Begun, .int .i64 x.Next, .int .i64 x.Age, Xaf.sv x.Held, .int .i64 x.Late, .int .i64 x.Far, .int .i64 x.Twice, .int .i64 x.Over, .int .i64 x.Lost]) Xl7 36 :=
 Xbe.map (Xbe.struct (sz := 9) Try.underlying36 (by kernel_rfl) (Xcv.cons (sz := 1) (sz2 := 8) rfl (by kernel_rfl) (Xbe.bool (P := Try.prog) Try.underlying4) (Xcv.cons (sz := 1) (sz2 := 7) rfl (by kernel_rfl) (Xbe.int (P := Try.prog) Try.underlying3) (Xcv.cons (sz := 1) (sz2 := 6) rfl (by kernel_rfl) (Xbe.int (P := Try.prog) Try.underlying3) (Xcv.cons (sz := 1) (sz2 := 5) rfl (by kernel_rfl) (Xbe.row (P := Try.prog) Xaf Xfx Try.underlying34 (by kernel_rfl) reads53) (Xcv.cons (sz := 1) (sz2 := 4) rfl (by kernel_rfl) (Xbe.int (P := Try.prog) Try.underlying3) (Xcv.cons (sz := 1) (sz2 := 3) rfl (by kernel_rfl) (Xbe.int (P := Try.prog) Try.underlying3) (Xcv.cons (sz := 1) (sz2 := 2) rfl (by kernel_rfl) (Xbe.int (P := Try.prog) Try.underlying3) (Xcv.cons (sz := 1) (sz2 := 1) rfl (by kernel_rfl) (Xbe.int (P := Try.prog) Try.underlying3) (Xcv.one (sz := 1) rfl (by kernel_rfl) (Xbe.int (P := Try.prog) Try.underlying3)) (by kernel_rfl)) (by kernel_rfl)) (by kernel_rfl)) (by kernel_rfl)) (by kernel_rfl)) (by kernel_rfl)) (by kernel_rfl)) (by kernel_rfl))) (fun y => ⟨y.1, y.2.1, y.2.2.1, y.2.2.2.1, y.2.2.2.2.1, y.2.2.2.2.2.1, y.2.2.2.2.2.2.1, y.2.2.2.2.2.2.2.1, y.2.2.2.2.2.2.2.2⟩) (fun _ => rfl) (fun _ h => h)
set_option maxRecDepth 100000 in
set_option maxHeartbeats 4000000 in
theorem lifted (os : Os) (started : os.Started) (H : Type) (enc : TypeId × Value → H) :
  ReturnsInHanded {} Try.checked os 6 .any (Rows.fnExactQueueInSpec.pre6 enc Try.prog Try.f6 Rows.fnExactQueueInRow.domain false) (Rows.fnExactQueueInSpec.post enc Try.prog Try.f6 false true false false) := by
 refine returnsInHanded_of_change_sized (C := Try.checked) own started (by kernel_rfl) Try.func6
  (ChangeSpec.witness6 (enc := enc) (C := Try.checked) false ⟨#[], #[.agg #[.bool false, .int .i64 0, .int .i64 0, .slice none 0 0, .int .i64 0, .int .i64 0, .int .i64 0, .int .i64 0, .int .i64 0], .agg #[.int .i64 0, .bool false, .bool false, .string ByteArray.empty]], []⟩ 8 (by kernel_rfl) (by kernel_rfl) (by kernel_rfl) (by kernel_rfl)) ?_
 intro W base args ds gs before hval0 hW hcnd hsz0 _
 have hval : ∀ (j : Nat) t v, Try.f6.params[j]? = some t → args[j]? = some v → Value.okWide Try.prog W .any base t v := hval0
 have hW' := hW
 obtain ⟨p, q, hA0, hV, rfl, hfz, hnd⟩ := hW
 have hA : DataW.TrodAll enc Try.prog W 0 (fun _ => true) true Try.f6.params.toList args.toList ds p := hA0
 rw [Try.params6] at hA hval
 obtain ⟨v0, vs0, d0, ds0, p0, q0, hargs, rfl, rfl, h0, r0⟩ := trodAll_cons hA
 obtain ⟨v1, vs1, d1, ds1, p1, q1, rfl, rfl, rfl, h1, r1⟩ := trodAll_cons r0
 obtain ⟨rfl, rfl, rfl⟩ := trodAll_nil r1
 obtain rfl : args = #[v0, v1] := by cases args; simp_all
 obtain ⟨rfl, rfl⟩ := trodVars_none hV
 have k0_ := h0
 have lt0 : ∀ x ∈ p0, x.block < W.heap.size := by obtain ⟨m, hm⟩ := k0_; exact DataW.trod_lt m _ _ _ hm
 obtain ⟨cs0, rfl, _⟩ := okWide_struct Try.underlying36 (hval 0 36 v0 rfl rfl)
 obtain ⟨fu0, hm0⟩ := h0
 obtain ⟨a0, y0, f0⟩ := reads36 enc W 0 _ _ fu0 _ _ hm0
 have k1_ := h1
 have lt1 : ∀ x ∈ p1, x.block < W.heap.size := by obtain ⟨m, hm⟩ := k1_; exact DataW.trod_lt m _ _ _ hm
 obtain ⟨cs1, rfl, _⟩ := okWide_struct Try.underlying53 (hval 1 53 v1 rfl rfl)
 obtain ⟨fu1, hm1⟩ := h1
 obtain ⟨a1, y1, f1⟩ := reads53 enc W 0 _ _ fu1 _ _ hm1
 clear hA0 hval0 hsz0
 have hP := Pure.FnExactQueueIn (p0 := a0) (p1 := a1) (h0 := y0) (h1 := y1)
 refine (Xq6 (Xfk hP) (us := [.agg cs0, .agg cs1]) ⟨Xql f0, Xql f1, trivial⟩).mono fun e W' ⟨he, bel⟩ => ?_
 subst he
 exact ⟨_, rfl, _, _, _, [], _, [], hW', trodAll_mk1 (shut_bool Try.underlying4 _), (trodAll_cons_mk (Below.trod laidOut (by kernel_rfl) (of_decide_eq_true (by kernel_rfl)) k0_ bel lt0) (trodAll_cons_mk (Below.trod laidOut (by kernel_rfl) (of_decide_eq_true (by kernel_rfl)) k1_ bel lt1) trodAll_mk0)), rfl, bel.frame _, fun h => by cases h⟩
theorem c_inPlace : (Rows.fnExactQueueInRow.inPlace == Try.prog.inPlace 6) = true := by kernel_rfl
theorem c_unfollowed : (Rows.fnExactQueueInRow.unfollowed == Try.prog.unfollowed 6) = true := by kernel_rfl
theorem c_recurses : (Rows.fnExactQueueInRow.recurses == Try.prog.recurses 6) = true := by kernel_rfl
theorem c_named : (Rows.fnExactQueueInRow.named == Try.prog.varsNamed 6) = true := by kernel_rfl
theorem c_maps : mapsRowed Try.prog = true := by kernel_rfl
theorem closed : joinedFacts Try.prog 6 Try.f6 Rows.fnExactQueueInSpec Rows.fnExactQueueInRow = true := by
 unfold joinedFacts
 rw [laidOut, c_maps, c_inPlace, c_unfollowed, c_recurses, c_named]
 kernel_rfl
theorem over : Rows.fnExactQueueInRow.holds Try.pinned (OpenSpec.ofChange Rows.fnExactQueueInSpec) :=
 OpenClaim.holds_of_wide 6 Try.f6 rfl rfl rfl rfl rfl rfl rfl ⟨rfl, rfl, rfl, rfl, rfl⟩ rfl rfl rfl rfl rfl (by kernel_rfl) Try.func6 closed
  (of_decide_eq_true (by kernel_rfl)) (by unfold Func.isWrapper; first | (rw [if_pos (by decide +kernel)]; kernel_rfl) | (rw [if_neg (by decide +kernel)]; exact ⟨rfl, rfl⟩))
  (fun os started H enc _ => lifted os started H enc)
theorem proved : Rows.FnExactQueueInSaid := over
#print axioms proved
end Go.Proofs.Ytlebkepfhdjnmaa.fnExactQueueIn
namespace Go.Proofs.Ytlebkepfhdjnmaa
/-- The row, under a short name, for the claim. -/
theorem fnExactQueueIn_holds : Rows.FnExactQueueInSaid := fnExactQueueIn.proved
end Go.Proofs.Ytlebkepfhdjnmaa
