/- The row of the law FnExactSourceNew: for every input the law returns true, and each argument reads behind the call as it read before. Conditions: none. -/
import Derived.Test.YtlebkepfhdjnmabRows
import Derived.Test.YtlebkepfhdjnmabFFnExactSourceNewx0
import Derived.Test.YtlebkepfhdjnmabPureFnExactSourceNew
import Derived.WalkKit
import Derived.ProofKit
import Derived.OpenShut
import Derived.ShutString
import Derived.ChangeOld
import Derived.Below
import Derived.SizedLaws
import Derived.Carry
namespace Go.Proofs.Ytlebkepfhdjnmab.fnExactSourceNew
open Go.ChangeShapes Go.WideShapes Go.ChangeAt Go.RowKit
open Go.Proofs.YtlebkepfhdjnmabAL Go.Proofs.Ytlebkepfhdjnmab.A
open Go.ChangeMaps (open_string shut_string)
set_option linter.unusedVariables false
set_option linter.unusedSimpArgs false
theorem own : ownKnob Try.prog.godebug = none := by kernel_rfl
theorem laidOut : laidOutB Try.prog = true := by kernel_rfl
theorem reads59 : Xba Try.prog (fun x : Go.Proofs.Ytlebkepfhdjnmab.A.Par => [.int .i64 x.Qp, .bool x.Large, .bool x.Exact, .bool x.Confined]) Xtf 59 :=
 Xba.map (Xba.struct (sz := 4) Try.underlying59 (by kernel_rfl) (Xdr.cons (sz := 1) (sz2 := 3) rfl (by kernel_rfl) (Xba.int (P := Try.prog) Try.underlying3) (Xdr.cons (sz := 1) (sz2 := 2) rfl (by kernel_rfl) (Xba.bool (P := Try.prog) Try.underlying4) (Xdr.cons (sz := 1) (sz2 := 1) rfl (by kernel_rfl) (Xba.bool (P := Try.prog) Try.underlying4) (Xdr.one (sz := 1) rfl (by kernel_rfl) (Xba.bool (P := Try.prog) Try.underlying4)) (by kernel_rfl)) (by kernel_rfl)) (by kernel_rfl))) (fun y => ⟨y.1, y.2.1, y.2.2.1, y.2.2.2⟩) (fun _ => rfl) (fun _ h => h)
theorem reads61 : Xba Try.prog (fun x : Go.Proofs.Ytlebkepfhdjnmab.A.Rate => [.int .i64 x.Qp, .int .i64 x.Target, .int .i64 x.Debt]) Xr4 61 :=
 Xba.map (Xba.struct (sz := 3) Try.underlying61 (by kernel_rfl) (Xdr.cons (sz := 1) (sz2 := 2) rfl (by kernel_rfl) (Xba.int (P := Try.prog) Try.underlying3) (Xdr.cons (sz := 1) (sz2 := 1) rfl (by kernel_rfl) (Xba.int (P := Try.prog) Try.underlying3) (Xdr.one (sz := 1) rfl (by kernel_rfl) (Xba.int (P := Try.prog) Try.underlying3)) (by kernel_rfl)) (by kernel_rfl))) (fun y => ⟨y.1, y.2.1, y.2.2⟩) (fun _ => rfl) (fun _ h => h)
set_option maxRecDepth 100000 in
set_option maxHeartbeats 4000000 in
theorem lifted (os : Os) (started : os.Started) (H : Type) (enc : TypeId × Value → H) :
  ReturnsInHanded {} Try.checked os 6 .any (Rows.fnExactSourceNewSpec.pre6 enc Try.prog Try.f6 Rows.fnExactSourceNewRow.domain false) (Rows.fnExactSourceNewSpec.post enc Try.prog Try.f6 false true false false) := by
 refine returnsInHanded_of_change_sized (C := Try.checked) own started (by kernel_rfl) Try.func6
  (ChangeSpec.witness6 (enc := enc) (C := Try.checked) false ⟨#[], #[.int .i64 0, .int .i64 0, .int .i64 0, .agg #[.int .i64 0, .bool false, .bool false, .bool false], .agg #[.int .i64 0, .int .i64 0, .int .i64 0], .int .i64 0, .int .i64 0], []⟩ 8 (by kernel_rfl) (by kernel_rfl) (by kernel_rfl) (by kernel_rfl)) ?_
 intro W base args ds gs before hval0 hW hcnd hsz0 _
 have hval : ∀ (j : Nat) t v, Try.f6.params[j]? = some t → args[j]? = some v → Value.okWide Try.prog W .any base t v := hval0
 have hW' := hW
 obtain ⟨p, q, hA0, hV, rfl, hfz, hnd⟩ := hW
 have hA : DataW.TrodAll enc Try.prog W 0 (fun _ => true) true Try.f6.params.toList args.toList ds p := hA0
 rw [Try.params6] at hA hval
 obtain ⟨v0, vs0, d0, ds0, p0, q0, hargs, rfl, rfl, h0, r0⟩ := trodAll_cons hA
 obtain ⟨v1, vs1, d1, ds1, p1, q1, rfl, rfl, rfl, h1, r1⟩ := trodAll_cons r0
 obtain ⟨v2, vs2, d2, ds2, p2, q2, rfl, rfl, rfl, h2, r2⟩ := trodAll_cons r1
 obtain ⟨v3, vs3, d3, ds3, p3, q3, rfl, rfl, rfl, h3, r3⟩ := trodAll_cons r2
 obtain ⟨v4, vs4, d4, ds4, p4, q4, rfl, rfl, rfl, h4, r4⟩ := trodAll_cons r3
 obtain ⟨v5, vs5, d5, ds5, p5, q5, rfl, rfl, rfl, h5, r5⟩ := trodAll_cons r4
 obtain ⟨v6, vs6, d6, ds6, p6, q6, rfl, rfl, rfl, h6, r6⟩ := trodAll_cons r5
 obtain ⟨rfl, rfl, rfl⟩ := trodAll_nil r6
 obtain rfl : args = #[v0, v1, v2, v3, v4, v5, v6] := by cases args; simp_all
 obtain ⟨rfl, rfl⟩ := trodVars_none hV
 obtain ⟨a0, rfl, rfl, rfl, w0⟩ := open_int Try.underlying3 (hval 0 3 v0 rfl rfl) h0
 obtain ⟨a1, rfl, rfl, rfl, w1⟩ := open_int Try.underlying3 (hval 1 3 v1 rfl rfl) h1
 obtain ⟨a2, rfl, rfl, rfl, w2⟩ := open_int Try.underlying3 (hval 2 3 v2 rfl rfl) h2
 have k3_ := h3
 have lt3 : ∀ x ∈ p3, x.block < W.heap.size := by obtain ⟨m, hm⟩ := k3_; exact DataW.trod_lt m _ _ _ hm
 obtain ⟨cs3, rfl, _⟩ := okWide_struct Try.underlying59 (hval 3 59 v3 rfl rfl)
 obtain ⟨fu3, hm3⟩ := h3
 obtain ⟨a3, y3, f3⟩ := reads59 enc W 0 _ _ fu3 _ _ hm3
 have k4_ := h4
 have lt4 : ∀ x ∈ p4, x.block < W.heap.size := by obtain ⟨m, hm⟩ := k4_; exact DataW.trod_lt m _ _ _ hm
 obtain ⟨cs4, rfl, _⟩ := okWide_struct Try.underlying61 (hval 4 61 v4 rfl rfl)
 obtain ⟨fu4, hm4⟩ := h4
 obtain ⟨a4, y4, f4⟩ := reads61 enc W 0 _ _ fu4 _ _ hm4
 obtain ⟨a5, rfl, rfl, rfl, w5⟩ := open_int Try.underlying3 (hval 5 3 v5 rfl rfl) h5
 obtain ⟨a6, rfl, rfl, rfl, w6⟩ := open_int Try.underlying3 (hval 6 3 v6 rfl rfl) h6
 clear hA0 hval0 hsz0
 have hP := Pure.FnExactSourceNew (p0 := a0) (p1 := a1) (p2 := a2) (p3 := a3) (p4 := a4) (p5 := a5) (p6 := a6) (h0 := w0) (h1 := w1) (h2 := w2) (h3 := y3) (h4 := y4) (h5 := w5) (h6 := w6)
 refine (Xq8 (Xdy hP) (us := [.int .i64 a0, .int .i64 a1, .int .i64 a2, .agg cs3, .agg cs4, .int .i64 a5, .int .i64 a6]) ⟨.sv (.int _ _), .sv (.int _ _), .sv (.int _ _), Xqn f3, Xqn f4, .sv (.int _ _), .sv (.int _ _), trivial⟩).mono fun e W' ⟨he, bel⟩ => ?_
 subst he
 exact ⟨_, rfl, _, _, _, [], _, [], hW', trodAll_mk1 (shut_bool Try.underlying4 _), (trodAll_cons_mk (shut_int Try.underlying3 w0) (trodAll_cons_mk (shut_int Try.underlying3 w1) (trodAll_cons_mk (shut_int Try.underlying3 w2) (trodAll_cons_mk (Below.trod laidOut (by kernel_rfl) (of_decide_eq_true (by kernel_rfl)) k3_ bel lt3) (trodAll_cons_mk (Below.trod laidOut (by kernel_rfl) (of_decide_eq_true (by kernel_rfl)) k4_ bel lt4) (trodAll_cons_mk (shut_int Try.underlying3 w5) (trodAll_cons_mk (shut_int Try.underlying3 w6) trodAll_mk0))))))), rfl, bel.frame _, fun h => by cases h⟩
theorem c_inPlace : (Rows.fnExactSourceNewRow.inPlace == Try.prog.inPlace 6) = true := by kernel_rfl
theorem c_unfollowed : (Rows.fnExactSourceNewRow.unfollowed == Try.prog.unfollowed 6) = true := by kernel_rfl
theorem c_recurses : (Rows.fnExactSourceNewRow.recurses == Try.prog.recurses 6) = true := by kernel_rfl
theorem c_named : (Rows.fnExactSourceNewRow.named == Try.prog.varsNamed 6) = true := by kernel_rfl
theorem c_maps : mapsRowed Try.prog = true := by kernel_rfl
theorem closed : joinedFacts Try.prog 6 Try.f6 Rows.fnExactSourceNewSpec Rows.fnExactSourceNewRow = true := by
 unfold joinedFacts
 rw [laidOut, c_maps, c_inPlace, c_unfollowed, c_recurses, c_named]
 kernel_rfl
theorem over : Rows.fnExactSourceNewRow.holds Try.pinned (OpenSpec.ofChange Rows.fnExactSourceNewSpec) :=
 OpenClaim.holds_of_wide 6 Try.f6 rfl rfl rfl rfl rfl rfl rfl ⟨rfl, rfl, rfl, rfl, rfl⟩ rfl rfl rfl rfl rfl (by kernel_rfl) Try.func6 closed
  (of_decide_eq_true (by kernel_rfl)) (by unfold Func.isWrapper; first | (rw [if_pos (by decide +kernel)]; kernel_rfl) | (rw [if_neg (by decide +kernel)]; exact ⟨rfl, rfl⟩))
  (fun os started H enc _ => lifted os started H enc)
theorem proved : Rows.FnExactSourceNewSaid := over
#print axioms proved
end Go.Proofs.Ytlebkepfhdjnmab.fnExactSourceNew
namespace Go.Proofs.Ytlebkepfhdjnmab
/-- The row, under a short name, for the claim. -/
theorem fnExactSourceNew_holds : Rows.FnExactSourceNewSaid := fnExactSourceNew.proved
end Go.Proofs.Ytlebkepfhdjnmab
