/- The row of the law FnExactAdmitFits: for every input the law returns true, and each argument reads behind the call as it read before. Conditions: none. -/
import Derived.Test.YtfbifogoheajmaaRows
import Derived.Test.YtfbifogoheajmaaQFnExactAdmitFitsx9
import Derived.Test.YtfbifogoheajmaaPureFnExactAdmitFits
import Derived.Test.YtfbifogoheajmaaOpen
import Derived.WalkKit
import Derived.ProofKit
import Derived.OpenShut
import Derived.ShutString
import Derived.ChangeOld
import Derived.Below
import Derived.SizedLaws
import Derived.Carry
namespace Go.Proofs.Ytfbifogoheajmaa.fnExactAdmitFits
open Go.ChangeShapes Go.WideShapes Go.ChangeAt Go.RowKit
open Go.Proofs.YtfbifogoheajmaaW.PrintWords Go.Proofs.Ytfbifogoheajmaa.QFnExactAdmitFits Go.Proofs.Ytfbifogoheajmaa.Opn
open Go.ChangeMaps (open_string shut_string)
set_option linter.unusedVariables false
set_option linter.unusedSimpArgs false
theorem own : ownKnob Try.prog.godebug = none := by kernel_rfl
theorem laidOut : laidOutB Try.prog = true := by kernel_rfl
set_option maxRecDepth 100000 in
set_option maxHeartbeats 4000000 in
theorem lifted (os : Os) (started : os.Started) (H : Type) (enc : TypeId × Value → H) :
    ReturnsInHanded {} Try.checked os 13 .any (Rows.fnExactAdmitFitsSpec.pre6 enc Try.prog Try.f13 Rows.fnExactAdmitFitsRow.domain false) (Rows.fnExactAdmitFitsSpec.post enc Try.prog Try.f13 false true false false) := by
  refine returnsInHanded_of_change_sized (C := Try.checked) own started (by kernel_rfl) Try.func13
    (ChangeSpec.witness6 (enc := enc) (C := Try.checked) false ⟨#[], #[.agg #[.bool false, .bool false, .int .i64 0, .int .i64 0, .slice none 0 0, .slice none 0 0, .int .i64 0, .bool false, .bool false, .bool false, .int .i64 0, .int .i64 0, .int .i64 0], .agg #[.int .i64 0, .int .i64 0, .slice none 0 0, .slice none 0 0], .int .i64 0], []⟩ 8 (by kernel_rfl) (by kernel_rfl) (by kernel_rfl) (by kernel_rfl)) ?_
  intro W base args ds gs before hval0 hW hcnd hsz0 _
  have hsz : (DataW.weightsEach Try.prog (Try.f13.params.toList ++ Rows.fnExactAdmitFitsSpec.plain.varTypes Try.prog) (ds ++ gs)).all (· ≤ reachBytes) = true := hsz0
  have hval : ∀ (j : Nat) t v, Try.f13.params[j]? = some t → args[j]? = some v → Value.okWide Try.prog W .any base t v := hval0
  have hW' := hW
  obtain ⟨p, q, hA0, hV, rfl, hfz, hnd⟩ := hW
  have hA : DataW.TrodAll enc Try.prog W 0 (fun _ => true) true Try.f13.params.toList args.toList ds p := hA0
  rw [Try.params13] at hA hval hsz
  obtain ⟨v0, vs0, d0, ds0, p0, q0, hargs, rfl, rfl, h0, r0⟩ := trodAll_cons hA
  obtain ⟨v1, vs1, d1, ds1, p1, q1, rfl, rfl, rfl, h1, r1⟩ := trodAll_cons r0
  obtain ⟨v2, vs2, d2, ds2, p2, q2, rfl, rfl, rfl, h2, r2⟩ := trodAll_cons r1
  obtain ⟨rfl, rfl, rfl⟩ := trodAll_nil r2
  obtain rfl : args = #[v0, v1, v2] := by cases args; simp_all
  obtain ⟨rfl, rfl⟩ := trodVars_none hV
  have k0_ := h0
  have lt0 : ∀ x ∈ p0, x.block < W.heap.size := by obtain ⟨m, hm⟩ := k0_; exact DataW.trod_lt m _ _ _ hm
  obtain ⟨cs0, rfl, _⟩ := okWide_struct Try.underlying66 (hval 0 66 v0 rfl rfl)
  obtain ⟨fu0, hm0⟩ := h0
  obtain ⟨⟨a0_0, a0_1, ⟨a0_2, a0_3, l0_4, l0_5⟩, ⟨a0_6, a0_7, a0_8, a0_9⟩, a0_10, a0_11, a0_12⟩, hok0, hK0⟩ := (Opens.struct (P := Try.prog) Try.underlying66 (by kernel_rfl) (OpensF.cons rfl (by kernel_rfl) (Opens.bool (P := Try.prog) Try.underlying4) (OpensF.cons rfl (by kernel_rfl) (Opens.bool (P := Try.prog) Try.underlying4) (OpensF.cons rfl (by kernel_rfl) (Opens.struct (P := Try.prog) Try.underlying64 (by kernel_rfl) (OpensF.cons rfl (by kernel_rfl) (Opens.int (P := Try.prog) Try.underlying3) (OpensF.cons rfl (by kernel_rfl) (Opens.int (P := Try.prog) Try.underlying3) (OpensF.cons rfl (by kernel_rfl) (Opens.slice (P := Try.prog) Try.underlying22 (by kernel_rfl) 3 (Opens.int (P := Try.prog) Try.underlying3)) (OpensF.one rfl (by kernel_rfl) (Opens.slice (P := Try.prog) Try.underlying22 (by kernel_rfl) 3 (Opens.int (P := Try.prog) Try.underlying3))) (by kernel_rfl)) (by kernel_rfl)) (by kernel_rfl))) (OpensF.cons rfl (by kernel_rfl) (Opens.struct (P := Try.prog) Try.underlying43 (by kernel_rfl) (OpensF.cons rfl (by kernel_rfl) (Opens.int (P := Try.prog) Try.underlying3) (OpensF.cons rfl (by kernel_rfl) (Opens.bool (P := Try.prog) Try.underlying4) (OpensF.cons rfl (by kernel_rfl) (Opens.bool (P := Try.prog) Try.underlying4) (OpensF.one rfl (by kernel_rfl) (Opens.bool (P := Try.prog) Try.underlying4)) (by kernel_rfl)) (by kernel_rfl)) (by kernel_rfl))) (OpensF.cons rfl (by kernel_rfl) (Opens.int (P := Try.prog) Try.underlying3) (OpensF.cons rfl (by kernel_rfl) (Opens.int (P := Try.prog) Try.underlying3) (OpensF.one rfl (by kernel_rfl) (Opens.int (P := Try.prog) Try.underlying3)) (by kernel_rfl)) (by kernel_rfl)) (by kernel_rfl)) (by kernel_rfl)) (by kernel_rfl)) (by kernel_rfl))) enc W 0 _ _ fu0 _ _ hm0
  obtain ⟨_, _, ⟨w0_2, w0_3, ⟨m0_4, o0_4⟩, ⟨m0_5, o0_5⟩⟩, ⟨w0_6, _, _, _⟩, w0_10, w0_11, w0_12⟩ := hok0
  obtain ⟨_, _, hcs0, rfl, ⟨_, _, rfl, rfl, ⟨_, _, rfl, ⟨_, _, rfl, rfl, ⟨_, _, rfl, rfl, ⟨_, _, rfl, ⟨A0_4, c0_4, rfl, hc0_4, hr0_4⟩, ⟨A0_5, c0_5, rfl, hc0_5, hr0_5⟩⟩⟩⟩, ⟨_, _, rfl, ⟨_, _, rfl, rfl, ⟨_, _, rfl, rfl, ⟨_, _, rfl, rfl, rfl⟩⟩⟩, ⟨_, _, rfl, rfl, ⟨_, _, rfl, rfl, rfl⟩⟩⟩⟩⟩⟩ := hK0
  obtain rfl : cs0 = #[.bool a0_0, .bool a0_1, .int .i64 a0_2, .int .i64 a0_3, .slice A0_4 l0_4.length c0_4, .slice A0_5 l0_5.length c0_5, .int .i64 a0_6, .bool a0_7, .bool a0_8, .bool a0_9, .int .i64 a0_10, .int .i64 a0_11, .int .i64 a0_12] := by
    have e_ : cs0.toList = [.bool a0_0, .bool a0_1, .int .i64 a0_2, .int .i64 a0_3, .slice A0_4 l0_4.length c0_4, .slice A0_5 l0_5.length c0_5, .int .i64 a0_6, .bool a0_7, .bool a0_8, .bool a0_9, .int .i64 a0_10, .int .i64 a0_11, .int .i64 a0_12] := hcs0
    rw [← Array.toArray_toList (xs := cs0), e_]
  have k1_ := h1
  have lt1 : ∀ x ∈ p1, x.block < W.heap.size := by obtain ⟨m, hm⟩ := k1_; exact DataW.trod_lt m _ _ _ hm
  obtain ⟨cs1, rfl, _⟩ := okWide_struct Try.underlying64 (hval 1 64 v1 rfl rfl)
  obtain ⟨fu1, hm1⟩ := h1
  obtain ⟨⟨a1_0, a1_1, l1_2, l1_3⟩, hok1, hK1⟩ := (Opens.struct (P := Try.prog) Try.underlying64 (by kernel_rfl) (OpensF.cons rfl (by kernel_rfl) (Opens.int (P := Try.prog) Try.underlying3) (OpensF.cons rfl (by kernel_rfl) (Opens.int (P := Try.prog) Try.underlying3) (OpensF.cons rfl (by kernel_rfl) (Opens.slice (P := Try.prog) Try.underlying22 (by kernel_rfl) 3 (Opens.int (P := Try.prog) Try.underlying3)) (OpensF.one rfl (by kernel_rfl) (Opens.slice (P := Try.prog) Try.underlying22 (by kernel_rfl) 3 (Opens.int (P := Try.prog) Try.underlying3))) (by kernel_rfl)) (by kernel_rfl)) (by kernel_rfl))) enc W 0 _ _ fu1 _ _ hm1
  obtain ⟨w1_0, w1_1, ⟨m1_2, o1_2⟩, ⟨m1_3, o1_3⟩⟩ := hok1
  obtain ⟨_, _, hcs1, rfl, ⟨_, _, rfl, rfl, ⟨_, _, rfl, ⟨A1_2, c1_2, rfl, hc1_2, hr1_2⟩, ⟨A1_3, c1_3, rfl, hc1_3, hr1_3⟩⟩⟩⟩ := hK1
  obtain rfl : cs1 = #[.int .i64 a1_0, .int .i64 a1_1, .slice A1_2 l1_2.length c1_2, .slice A1_3 l1_3.length c1_3] := by
    have e_ : cs1.toList = [.int .i64 a1_0, .int .i64 a1_1, .slice A1_2 l1_2.length c1_2, .slice A1_3 l1_3.length c1_3] := hcs1
    rw [← Array.toArray_toList (xs := cs1), e_]
  obtain ⟨a2, rfl, rfl, rfl, w2⟩ := open_int Try.underlying3 (hval 2 3 v2 rfl rfl) h2
  clear hA0 hval0 hsz0 hsz
  obtain ⟨k, hP⟩ := Pure.FnExactAdmitFits (a0_0 := a0_0) (a0_1 := a0_1) (a0_2 := a0_2) (a0_3 := a0_3) (l0_4 := l0_4) (l0_5 := l0_5) (a0_6 := a0_6) (a0_7 := a0_7) (a0_8 := a0_8) (a0_9 := a0_9) (a0_10 := a0_10) (a0_11 := a0_11) (a0_12 := a0_12) (a1_0 := a1_0) (a1_1 := a1_1) (l1_2 := l1_2) (l1_3 := l1_3) (a2 := a2) (m0_4 := m0_4) (m0_5 := m0_5) (m1_2 := m1_2) (m1_3 := m1_3) (w2 := w2)
  refine (laws_FnExactAdmitFits.calls k a0_0 a0_1 a0_2 a0_3 _ _ l0_4 _ _ l0_5 a0_6 a0_7 a0_8 a0_9 a0_10 a0_11 a0_12 a1_0 a1_1 _ _ l1_2 _ _ l1_3 a2 true W hr0_4 hc0_4 hr0_5 hc0_5 hr1_2 hc1_2 hr1_3 hc1_3 hP (Aside0.mk rfl)).mono fun e W' ⟨he, bel⟩ => ?_
  subst he
  exact ⟨_, rfl, _, _, _, [], _, [], hW', trodAll_mk1 (shut_bool Try.underlying4 _), (trodAll_cons_mk (Below.trod laidOut (by kernel_rfl) (of_decide_eq_true (by kernel_rfl)) k0_ bel lt0) (trodAll_cons_mk (Below.trod laidOut (by kernel_rfl) (of_decide_eq_true (by kernel_rfl)) k1_ bel lt1) (trodAll_cons_mk (shut_int Try.underlying3 w2) trodAll_mk0))), rfl, bel.frame _, fun h => by cases h⟩
theorem over : Rows.fnExactAdmitFitsRow.holds Try.pinned (OpenSpec.ofChange Rows.fnExactAdmitFitsSpec) :=
  OpenClaim.holds_of_wide 13 Try.f13 rfl rfl rfl rfl rfl rfl rfl ⟨rfl, rfl, rfl, rfl, rfl⟩ rfl rfl rfl rfl rfl (by kernel_rfl) Try.func13 (by kernel_rfl)
    (of_decide_eq_true (by kernel_rfl)) (by unfold Func.isWrapper; first | (rw [if_pos (by decide +kernel)]; kernel_rfl) | (rw [if_neg (by decide +kernel)]; exact ⟨rfl, rfl⟩))
    (fun os started H enc _ => lifted os started H enc)
theorem proved : Rows.FnExactAdmitFitsSaid := over
#print axioms proved
end Go.Proofs.Ytfbifogoheajmaa.fnExactAdmitFits
namespace Go.Proofs.Ytfbifogoheajmaa
/-- The row, under a short name, for the claim. -/
theorem fnExactAdmitFits_holds : Rows.FnExactAdmitFitsSaid := fnExactAdmitFits.proved
end Go.Proofs.Ytfbifogoheajmaa
