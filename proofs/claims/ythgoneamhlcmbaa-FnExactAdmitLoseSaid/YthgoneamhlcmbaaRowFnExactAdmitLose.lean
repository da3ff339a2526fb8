/- The row of the law FnExactAdmitLose: for every input the law returns true, and each argument reads behind the call as it read before. Conditions: none. -/
import Derived.Test.YthgoneamhlcmbaaRows
import Derived.Test.YthgoneamhlcmbaaQFnExactAdmitLosex9
import Derived.Test.YthgoneamhlcmbaaPureFnExactAdmitLose
import Derived.Test.YthgoneamhlcmbaaOpen
import Derived.WalkKit
import Derived.ProofKit
import Derived.OpenShut
import Derived.ShutString
import Derived.ChangeOld
import Derived.Below
import Derived.SizedLaws
import Derived.Carry
namespace Go.Proofs.Ythgoneamhlcmbaa.fnExactAdmitLose
open Go.ChangeShapes Go.WideShapes Go.ChangeAt Go.RowKit
open Go.Proofs.YthgoneamhlcmbaaW.PrintWords Go.Proofs.Ythgoneamhlcmbaa.QFnExactAdmitLose Go.Proofs.Ythgoneamhlcmbaa.Opn
open Go.ChangeMaps (open_string shut_string)
set_option linter.unusedVariables false
set_option linter.unusedSimpArgs false
theorem own : ownKnob Try.prog.godebug = none := by kernel_rfl
theorem laidOut : laidOutB Try.prog = true := by kernel_rfl
set_option maxRecDepth 100000 in
set_option maxHeartbeats 4000000 in
theorem lifted (os : Os) (started : os.Started) (H : Type) (enc : TypeId × Value → H) :
    ReturnsInHanded {} Try.checked os 3 .any (Rows.fnExactAdmitLoseSpec.pre6 enc Try.prog Try.f3 Rows.fnExactAdmitLoseRow.domain false) (Rows.fnExactAdmitLoseSpec.post enc Try.prog Try.f3 false true false false) := by
  refine returnsInHanded_of_change_sized (C := Try.checked) own started (by kernel_rfl) Try.func3
    (ChangeSpec.witness6 (enc := enc) (C := Try.checked) false ⟨#[], #[.agg #[.bool false, .bool false, .int .i64 0, .int .i64 0, .slice none 0 0, .slice none 0 0, .int .i64 0, .bool false, .bool false, .bool false, .int .i64 0, .int .i64 0, .int .i64 0]], []⟩ 8 (by kernel_rfl) (by kernel_rfl) (by kernel_rfl) (by kernel_rfl)) ?_
  intro W base args ds gs before hval0 hW hcnd hsz0 _
  have hsz : (DataW.weightsEach Try.prog (Try.f3.params.toList ++ Rows.fnExactAdmitLoseSpec.plain.varTypes Try.prog) (ds ++ gs)).all (· ≤ reachBytes) = true := hsz0
  have hval : ∀ (j : Nat) t v, Try.f3.params[j]? = some t → args[j]? = some v → Value.okWide Try.prog W .any base t v := hval0
  have hW' := hW
  obtain ⟨p, q, hA0, hV, rfl, hfz, hnd⟩ := hW
  have hA : DataW.TrodAll enc Try.prog W 0 (fun _ => true) true Try.f3.params.toList args.toList ds p := hA0
  rw [Try.params3] at hA hval hsz
  obtain ⟨v0, vs0, d0, ds0, p0, q0, hargs, rfl, rfl, h0, r0⟩ := trodAll_cons hA
  obtain ⟨rfl, rfl, rfl⟩ := trodAll_nil r0
  obtain rfl : args = #[v0] := by cases args; simp_all
  obtain ⟨rfl, rfl⟩ := trodVars_none hV
  have k0_ := h0
  have lt0 : ∀ x ∈ p0, x.block < W.heap.size := by obtain ⟨m, hm⟩ := k0_; exact DataW.trod_lt m _ _ _ hm
  obtain ⟨cs0, rfl, _⟩ := okWide_struct Try.underlying28 (hval 0 28 v0 rfl rfl)
  obtain ⟨fu0, hm0⟩ := h0
  obtain ⟨⟨a0_0, a0_1, ⟨a0_2, a0_3, l0_4, l0_5⟩, ⟨a0_6, a0_7, a0_8, a0_9⟩, a0_10, a0_11, a0_12⟩, hok0, hK0⟩ := (Opens.struct (P := Try.prog) Try.underlying28 (by kernel_rfl) (OpensF.cons rfl (by kernel_rfl) (Opens.bool (P := Try.prog) Try.underlying4) (OpensF.cons rfl (by kernel_rfl) (Opens.bool (P := Try.prog) Try.underlying4) (OpensF.cons rfl (by kernel_rfl) (Opens.struct (P := Try.prog) Try.underlying24 (by kernel_rfl) (OpensF.cons rfl (by kernel_rfl) (Opens.int (P := Try.prog) Try.underlying3) (OpensF.cons rfl (by kernel_rfl) (Opens.int (P := Try.prog) Try.underlying3) (OpensF.cons rfl (by kernel_rfl) (Opens.slice (P := Try.prog) Try.underlying22 (by kernel_rfl) 3 (Opens.int (P := Try.prog) Try.underlying3)) (OpensF.one rfl (by kernel_rfl) (Opens.slice (P := Try.prog) Try.underlying22 (by kernel_rfl) 3 (Opens.int (P := Try.prog) Try.underlying3))) (by kernel_rfl)) (by kernel_rfl)) (by kernel_rfl))) (OpensF.cons rfl (by kernel_rfl) (Opens.struct (P := Try.prog) Try.underlying26 (by kernel_rfl) (OpensF.cons rfl (by kernel_rfl) (Opens.int (P := Try.prog) Try.underlying3) (OpensF.cons rfl (by kernel_rfl) (Opens.bool (P := Try.prog) Try.underlying4) (OpensF.cons rfl (by kernel_rfl) (Opens.bool (P := Try.prog) Try.underlying4) (OpensF.one rfl (by kernel_rfl) (Opens.bool (P := Try.prog) Try.underlying4)) (by kernel_rfl)) (by kernel_rfl)) (by kernel_rfl))) (OpensF.cons rfl (by kernel_rfl) (Opens.int (P := Try.prog) Try.underlying3) (OpensF.cons rfl (by kernel_rfl) (Opens.int (P := Try.prog) Try.underlying3) (OpensF.one rfl (by kernel_rfl) (Opens.int (P := Try.prog) Try.underlying3)) (by kernel_rfl)) (by kernel_rfl)) (by kernel_rfl)) (by kernel_rfl)) (by kernel_rfl)) (by kernel_rfl))) enc W 0 _ _ fu0 _ _ hm0
  obtain ⟨_, _, ⟨w0_2, w0_3, ⟨m0_4, o0_4⟩, ⟨m0_5, o0_5⟩⟩, ⟨w0_6, _, _, _⟩, w0_10, w0_11, w0_12⟩ := hok0
  obtain ⟨_, _, hcs0, rfl, ⟨_, _, rfl, rfl, ⟨_, _, rfl, ⟨_, _, rfl, rfl, ⟨_, _, rfl, rfl, ⟨_, _, rfl, ⟨A0_4, c0_4, rfl, hc0_4, hr0_4⟩, ⟨A0_5, c0_5, rfl, hc0_5, hr0_5⟩⟩⟩⟩, ⟨_, _, rfl, ⟨_, _, rfl, rfl, ⟨_, _, rfl, rfl, ⟨_, _, rfl, rfl, rfl⟩⟩⟩, ⟨_, _, rfl, rfl, ⟨_, _, rfl, rfl, rfl⟩⟩⟩⟩⟩⟩ := hK0
  obtain rfl : cs0 = #[.bool a0_0, .bool a0_1, .int .i64 a0_2, .int .i64 a0_3, .slice A0_4 l0_4.length c0_4, .slice A0_5 l0_5.length c0_5, .int .i64 a0_6, .bool a0_7, .bool a0_8, .bool a0_9, .int .i64 a0_10, .int .i64 a0_11, .int .i64 a0_12] := by
    have e_ : cs0.toList = [.bool a0_0, .bool a0_1, .int .i64 a0_2, .int .i64 a0_3, .slice A0_4 l0_4.length c0_4, .slice A0_5 l0_5.length c0_5, .int .i64 a0_6, .bool a0_7, .bool a0_8, .bool a0_9, .int .i64 a0_10, .int .i64 a0_11, .int .i64 a0_12] := hcs0
    rw [← Array.toArray_toList (xs := cs0), e_]
  clear hA0 hval0 hsz0 hsz
  obtain ⟨k, hP⟩ := Pure.FnExactAdmitLose (a0_0 := a0_0) (a0_1 := a0_1) (a0_2 := a0_2) (a0_3 := a0_3) (l0_4 := l0_4) (l0_5 := l0_5) (a0_6 := a0_6) (a0_7 := a0_7) (a0_8 := a0_8) (a0_9 := a0_9) (a0_10 := a0_10) (a0_11 := a0_11) (a0_12 := a0_12) (m0_4 := m0_4) (m0_5 := m0_5)
  refine (laws_FnExactAdmitLose.calls k a0_0 a0_1 a0_2 a0_3 _ _ l0_4 _ _ l0_5 a0_6 a0_7 a0_8 a0_9 a0_10 a0_11 a0_12 true W hr0_4 hc0_4 hr0_5 hc0_5 hP (Aside0.mk rfl)).mono fun e W' ⟨he, bel⟩ => ?_
  subst he
  exact ⟨_, rfl, _, _, _, [], _, [], hW', trodAll_mk1 (shut_bool Try.underlying4 _), (trodAll_cons_mk (Below.trod laidOut (by kernel_rfl) (of_decide_eq_true (by kernel_rfl)) k0_ bel lt0) trodAll_mk0), rfl, bel.frame _, fun h => by cases h⟩
theorem over : Rows.fnExactAdmitLoseRow.holds Try.pinned (OpenSpec.ofChange Rows.fnExactAdmitLoseSpec) :=
  OpenClaim.holds_of_wide 3 Try.f3 rfl rfl rfl rfl rfl rfl rfl ⟨rfl, rfl, rfl, rfl, rfl⟩ rfl rfl rfl rfl rfl (by kernel_rfl) Try.func3 (by kernel_rfl)
    (of_decide_eq_true (by kernel_rfl)) (by unfold Func.isWrapper; first | (rw [if_pos (by decide +kernel)]; kernel_rfl) | (rw [if_neg (by decide +kernel)]; exact ⟨rfl, rfl⟩))
    (fun os started H enc _ => lifted os started H enc)
theorem proved : Rows.FnExactAdmitLoseSaid := over
#print axioms proved
end Go.Proofs.Ythgoneamhlcmbaa.fnExactAdmitLose
namespace Go.Proofs.Ythgoneamhlcmbaa
/-- The row, under a short name, for the claim. -/
theorem fnExactAdmitLose_holds : Rows.FnExactAdmitLoseSaid := fnExactAdmitLose.proved
end Go.Proofs.Ythgoneamhlcmbaa
