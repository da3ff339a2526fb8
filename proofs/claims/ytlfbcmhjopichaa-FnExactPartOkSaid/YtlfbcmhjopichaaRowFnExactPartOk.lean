/- The row of the law FnExactPartOk: for every input the law returns true, and each argument reads behind the call as it read before. Conditions: none. -/
import Derived.Test.YtlfbcmhjopichaaRows
import Derived.Test.YtlfbcmhjopichaaQFnExactPartOkx10
import Derived.Test.YtlfbcmhjopichaaPureFnExactPartOk
import Derived.Test.YtlfbcmhjopichaaOpen
import Derived.WalkKit
import Derived.ProofKit
import Derived.OpenShut
import Derived.ShutString
import Derived.ChangeOld
import Derived.Below
import Derived.SizedLaws
import Derived.Carry
namespace Go.Proofs.Ytlfbcmhjopichaa.fnExactPartOk
open Go.ChangeShapes Go.WideShapes Go.ChangeAt Go.RowKit
open Go.Proofs.YtlfbcmhjopichaaW.PrintWords Go.Proofs.Ytlfbcmhjopichaa.QFnExactPartOk Go.Proofs.Ytlfbcmhjopichaa.Opn
open Go.ChangeMaps (open_string shut_string)
set_option linter.unusedVariables false
set_option linter.unusedSimpArgs false
theorem own : ownKnob Try.prog.godebug = none := by kernel_rfl
theorem laidOut : laidOutB Try.prog = true := by kernel_rfl
set_option maxRecDepth 100000 in
set_option maxHeartbeats 4000000 in
theorem lifted (os : Os) (started : os.Started) (H : Type) (enc : TypeId × Value → H) :
    ReturnsInHanded {} Try.checked os 13 .any (Rows.fnExactPartOkSpec.pre6 enc Try.prog Try.f13 Rows.fnExactPartOkRow.domain false) (Rows.fnExactPartOkSpec.post enc Try.prog Try.f13 false true false false) := by
  refine returnsInHanded_of_change_sized (C := Try.checked) own started (by kernel_rfl) Try.func13
    (ChangeSpec.witness6 (enc := enc) (C := Try.checked) false ⟨#[], #[.agg #[.int .i64 0, .bool false, .bool false, .bool false], .agg #[.bool false, .int .i64 0, .string ByteArray.empty], .int .i64 0], []⟩ 8 (by kernel_rfl) (by kernel_rfl) (by kernel_rfl) (by kernel_rfl)) ?_
  intro W base args ds gs before hval0 hW hcnd hsz0 _
  have hsz : (DataW.weightsEach Try.prog (Try.f13.params.toList ++ Rows.fnExactPartOkSpec.plain.varTypes Try.prog) (ds ++ gs)).all (· ≤ reachBytes) = true := hsz0
  have hval : ∀ (j : Nat) t v, Try.f13.params[j]? = some t → args[j]? = some v → Value.okWide Try.prog W .any base t v := hval0
  have hW' := hW
  obtain ⟨p, q, hA0, hV, rfl, hfz, hnd⟩ := hW
  have hA : DataW.TrodAll enc Try.prog W 0 (fun _ => true) true Try.f13.params.toList args.toList ds p := hA0
  rw [Try.params13] at hA hval hsz
  obtain ⟨v0, vs0, d0, ds0, p0, q0, hargs, rfl, rfl, h0, r0⟩ := trodAll_cons hA
  obtain ⟨v1, vs1, d1, ds1, p1, q1, rfl, rfl, rfl, h1, r1⟩ := trodAll_cons r0
  obtain ⟨v2, vs2, d2, ds2, p2, q2, rfl, rfl, rfl, h2, r2⟩ := trodAll_cons r1
  obtain ⟨rfl, rfl, rfl⟩ := trodAll_nil r2
  obtain rfl : args = #[v0, v1, v2] := by cases args; simp_all
  obtain ⟨rfl, rfl⟩ := trodVars_none hV
  have k0_ := h0
  have lt0 : ∀ x ∈ p0, x.block < W.heap.size := by obtain ⟨m, hm⟩ := k0_; exact DataW.trod_lt m _ _ _ hm
  obtain ⟨cs0, rfl, _⟩ := okWide_struct Try.underlying46 (hval 0 46 v0 rfl rfl)
  obtain ⟨fu0, hm0⟩ := h0
  obtain ⟨⟨a0_0, a0_1, a0_2, a0_3⟩, hok0, hK0⟩ := (Opens.struct (P := Try.prog) Try.underlying46 (by kernel_rfl) (OpensF.cons rfl (by kernel_rfl) (Opens.int (P := Try.prog) Try.underlying3) (OpensF.cons rfl (by kernel_rfl) (Opens.bool (P := Try.prog) Try.underlying4) (OpensF.cons rfl (by kernel_rfl) (Opens.bool (P := Try.prog) Try.underlying4) (OpensF.one rfl (by kernel_rfl) (Opens.bool (P := Try.prog) Try.underlying4)) (by kernel_rfl)) (by kernel_rfl)) (by kernel_rfl))) enc W 0 _ _ fu0 _ _ hm0
  obtain ⟨w0_0, _, _, _⟩ := hok0
  obtain ⟨_, _, hcs0, rfl, ⟨_, _, rfl, rfl, ⟨_, _, rfl, rfl, rfl⟩⟩⟩ := hK0
  obtain rfl : cs0 = #[.int .i64 a0_0, .bool a0_1, .bool a0_2, .bool a0_3] := by
    have e_ : cs0.toList = [.int .i64 a0_0, .bool a0_1, .bool a0_2, .bool a0_3] := hcs0
    rw [← Array.toArray_toList (xs := cs0), e_]
  have k1_ := h1
  have lt1 : ∀ x ∈ p1, x.block < W.heap.size := by obtain ⟨m, hm⟩ := k1_; exact DataW.trod_lt m _ _ _ hm
  obtain ⟨cs1, rfl, _⟩ := okWide_struct Try.underlying100 (hval 1 100 v1 rfl rfl)
  obtain ⟨fu1, hm1⟩ := h1
  obtain ⟨⟨a1_0, a1_1, a1_2⟩, hok1, hK1⟩ := (Opens.struct (P := Try.prog) Try.underlying100 (by kernel_rfl) (OpensF.cons rfl (by kernel_rfl) (Opens.bool (P := Try.prog) Try.underlying4) (OpensF.cons rfl (by kernel_rfl) (Opens.int (P := Try.prog) Try.underlying3) (OpensF.one rfl (by kernel_rfl) (Opens.string (P := Try.prog) Try.underlying9)) (by kernel_rfl)) (by kernel_rfl))) enc W 0 _ _ fu1 _ _ hm1
  obtain ⟨_, w1_1, y1_2⟩ := hok1
  obtain ⟨_, _, hcs1, rfl, ⟨_, _, rfl, rfl, rfl⟩⟩ := hK1
  obtain rfl : cs1 = #[.bool a1_0, .int .i64 a1_1, .string a1_2] := by
    have e_ : cs1.toList = [.bool a1_0, .int .i64 a1_1, .string a1_2] := hcs1
    rw [← Array.toArray_toList (xs := cs1), e_]
  obtain ⟨a2, rfl, rfl, rfl, w2⟩ := open_int Try.underlying3 (hval 2 3 v2 rfl rfl) h2
  clear hA0 hval0 hsz0 hsz
  obtain ⟨k, hP⟩ := Pure.FnExactPartOk (a0_0 := a0_0) (a0_1 := a0_1) (a0_2 := a0_2) (a0_3 := a0_3) (a1_0 := a1_0) (a1_1 := a1_1) (a1_2 := a1_2) (a2 := a2) (y1_2 := y1_2)
  refine (laws_FnExactPartOk.calls k a0_0 a0_1 a0_2 a0_3 a1_0 a1_1 a1_2 a2 true W  hP (Aside0.mk rfl)).mono fun e W' ⟨he, bel⟩ => ?_
  subst he
  exact ⟨_, rfl, _, _, _, [], _, [], hW', trodAll_mk1 (shut_bool Try.underlying4 _), (trodAll_cons_mk (Below.trod laidOut (by kernel_rfl) (of_decide_eq_true (by kernel_rfl)) k0_ bel lt0) (trodAll_cons_mk (Below.trod laidOut (by kernel_rfl) (of_decide_eq_true (by kernel_rfl)) k1_ bel lt1) (trodAll_cons_mk (shut_int Try.underlying3 w2) trodAll_mk0))), rfl, bel.frame _, fun h => by cases h⟩
theorem over : Rows.fnExactPartOkRow.holds Try.pinned (OpenSpec.ofChange Rows.fnExactPartOkSpec) :=
  OpenClaim.holds_of_wide 13 Try.f13 rfl rfl rfl rfl rfl rfl rfl ⟨rfl, rfl, rfl, rfl, rfl⟩ rfl rfl rfl rfl rfl (by kernel_rfl) Try.func13 (by kernel_rfl)
    (of_decide_eq_true (by kernel_rfl)) (by unfold Func.isWrapper; first | (rw [if_pos (by decide +kernel)]; kernel_rfl) | (rw [if_neg (by decide +kernel)]; exact ⟨rfl, rfl⟩))
    (fun os started H enc _ => lifted os started H enc)
theorem proved : Rows.FnExactPartOkSaid := over
#print axioms proved
end Go.Proofs.Ytlfbcmhjopichaa.fnExactPartOk
namespace Go.Proofs.Ytlfbcmhjopichaa
/-- The row, under a short name, for the claim. -/
theorem fnExactPartOk_holds : Rows.FnExactPartOkSaid := fnExactPartOk.proved
end Go.Proofs.Ytlfbcmhjopichaa
