/- The row of the law FnExactGreyPart: for every input the law returns true, and each argument reads behind the call as it read before. Conditions: none. -/
import Derived.Test.YtlfbcmhjopichaaRows
import Derived.Test.YtlfbcmhjopichaaQFnExactGreyPartx8
import Derived.Test.YtlfbcmhjopichaaPureFnExactGreyPart
import Derived.Test.YtlfbcmhjopichaaOpen
import Derived.WalkKit
import Derived.ProofKit
import Derived.OpenShut
import Derived.ShutString
import Derived.ChangeOld
import Derived.Below
import Derived.SizedLaws
import Derived.Carry
namespace Go.Proofs.Ytlfbcmhjopichaa.fnExactGreyPart
open Go.ChangeShapes Go.WideShapes Go.ChangeAt Go.RowKit
open Go.Proofs.YtlfbcmhjopichaaW.PrintWords Go.Proofs.Ytlfbcmhjopichaa.QFnExactGreyPart Go.Proofs.Ytlfbcmhjopichaa.Opn
open Go.ChangeMaps (open_string shut_string)
set_option linter.unusedVariables false
set_option linter.unusedSimpArgs false
theorem own : ownKnob Try.prog.godebug = none := by kernel_rfl
theorem laidOut : laidOutB Try.prog = true := by kernel_rfl
set_option maxRecDepth 100000 in
set_option maxHeartbeats 4000000 in
theorem lifted (os : Os) (started : os.Started) (H : Type) (enc : TypeId × Value → H) :
    ReturnsInHanded {} Try.checked os 7 .any (Rows.fnExactGreyPartSpec.pre6 enc Try.prog Try.f7 Rows.fnExactGreyPartRow.domain false) (Rows.fnExactGreyPartSpec.post enc Try.prog Try.f7 false true false false) := by
  refine returnsInHanded_of_change_sized (C := Try.checked) own started (by kernel_rfl) Try.func7
    (ChangeSpec.witness6 (enc := enc) (C := Try.checked) false ⟨#[], #[.int .i64 0, .agg #[.int .i64 0, .bool false, .bool false, .bool false]], []⟩ 8 (by kernel_rfl) (by kernel_rfl) (by kernel_rfl) (by kernel_rfl)) ?_
  intro W base args ds gs before hval0 hW hcnd hsz0 _
  have hsz : (DataW.weightsEach Try.prog (Try.f7.params.toList ++ Rows.fnExactGreyPartSpec.plain.varTypes Try.prog) (ds ++ gs)).all (· ≤ reachBytes) = true := hsz0
  have hval : ∀ (j : Nat) t v, Try.f7.params[j]? = some t → args[j]? = some v → Value.okWide Try.prog W .any base t v := hval0
  have hW' := hW
  obtain ⟨p, q, hA0, hV, rfl, hfz, hnd⟩ := hW
  have hA : DataW.TrodAll enc Try.prog W 0 (fun _ => true) true Try.f7.params.toList args.toList ds p := hA0
  rw [Try.params7] at hA hval hsz
  obtain ⟨v0, vs0, d0, ds0, p0, q0, hargs, rfl, rfl, h0, r0⟩ := trodAll_cons hA
  obtain ⟨v1, vs1, d1, ds1, p1, q1, rfl, rfl, rfl, h1, r1⟩ := trodAll_cons r0
  obtain ⟨rfl, rfl, rfl⟩ := trodAll_nil r1
  obtain rfl : args = #[v0, v1] := by cases args; simp_all
  obtain ⟨rfl, rfl⟩ := trodVars_none hV
  obtain ⟨a0, rfl, rfl, rfl, w0⟩ := open_int Try.underlying3 (hval 0 3 v0 rfl rfl) h0
  have k1_ := h1
  have lt1 : ∀ x ∈ p1, x.block < W.heap.size := by obtain ⟨m, hm⟩ := k1_; exact DataW.trod_lt m _ _ _ hm
  obtain ⟨cs1, rfl, _⟩ := okWide_struct Try.underlying46 (hval 1 46 v1 rfl rfl)
  obtain ⟨fu1, hm1⟩ := h1
  obtain ⟨⟨a1_0, a1_1, a1_2, a1_3⟩, hok1, hK1⟩ := (Opens.struct (P := Try.prog) Try.underlying46 (by kernel_rfl) (OpensF.cons rfl (by kernel_rfl) (Opens.int (P := Try.prog) Try.underlying3) (OpensF.cons rfl (by kernel_rfl) (Opens.bool (P := Try.prog) Try.underlying4) (OpensF.cons rfl (by kernel_rfl) (Opens.bool (P := Try.prog) Try.underlying4) (OpensF.one rfl (by kernel_rfl) (Opens.bool (P := Try.prog) Try.underlying4)) (by kernel_rfl)) (by kernel_rfl)) (by kernel_rfl))) enc W 0 _ _ fu1 _ _ hm1
  obtain ⟨w1_0, _, _, _⟩ := hok1
  obtain ⟨_, _, hcs1, rfl, ⟨_, _, rfl, rfl, ⟨_, _, rfl, rfl, rfl⟩⟩⟩ := hK1
  obtain rfl : cs1 = #[.int .i64 a1_0, .bool a1_1, .bool a1_2, .bool a1_3] := by
    have e_ : cs1.toList = [.int .i64 a1_0, .bool a1_1, .bool a1_2, .bool a1_3] := hcs1
    rw [← Array.toArray_toList (xs := cs1), e_]
  clear hA0 hval0 hsz0 hsz
  obtain ⟨k, hP⟩ := Pure.FnExactGreyPart (a0 := a0) (a1_0 := a1_0) (a1_1 := a1_1) (a1_2 := a1_2) (a1_3 := a1_3)
  refine (laws_FnExactGreyPart.calls k a0 a1_0 a1_1 a1_2 a1_3 true W  hP (Aside0.mk rfl)).mono fun e W' ⟨he, bel⟩ => ?_
  subst he
  exact ⟨_, rfl, _, _, _, [], _, [], hW', trodAll_mk1 (shut_bool Try.underlying4 _), (trodAll_cons_mk (shut_int Try.underlying3 w0) (trodAll_cons_mk (Below.trod laidOut (by kernel_rfl) (of_decide_eq_true (by kernel_rfl)) k1_ bel lt1) trodAll_mk0)), rfl, bel.frame _, fun h => by cases h⟩
theorem over : Rows.fnExactGreyPartRow.holds Try.pinned (OpenSpec.ofChange Rows.fnExactGreyPartSpec) :=
  OpenClaim.holds_of_wide 7 Try.f7 rfl rfl rfl rfl rfl rfl rfl ⟨rfl, rfl, rfl, rfl, rfl⟩ rfl rfl rfl rfl rfl (by kernel_rfl) Try.func7 (by kernel_rfl)
    (of_decide_eq_true (by kernel_rfl)) (by unfold Func.isWrapper; first | (rw [if_pos (by decide +kernel)]; kernel_rfl) | (rw [if_neg (by decide +kernel)]; exact ⟨rfl, rfl⟩))
    (fun os started H enc _ => lifted os started H enc)
theorem proved : Rows.FnExactGreyPartSaid := over
#print axioms proved
end Go.Proofs.Ytlfbcmhjopichaa.fnExactGreyPart
namespace Go.Proofs.Ytlfbcmhjopichaa
/-- The row, under a short name, for the claim. -/
theorem fnExactGreyPart_holds : Rows.FnExactGreyPartSaid := fnExactGreyPart.proved
end Go.Proofs.Ytlfbcmhjopichaa
