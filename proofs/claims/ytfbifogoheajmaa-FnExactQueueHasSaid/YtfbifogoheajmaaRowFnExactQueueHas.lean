/- The row of the law FnExactQueueHas: for every input the law returns true, and each argument reads behind the call as it read before. Conditions: none. -/
import Derived.Test.YtfbifogoheajmaaRows
import Derived.Test.YtfbifogoheajmaaQFnExactQueueHasx6
import Derived.Test.YtfbifogoheajmaaPureFnExactQueueHas
import Derived.Test.YtfbifogoheajmaaOpen
import Derived.WalkKit
import Derived.ProofKit
import Derived.OpenShut
import Derived.ShutString
import Derived.ChangeOld
import Derived.Below
import Derived.SizedLaws
import Derived.Carry
namespace Go.Proofs.Ytfbifogoheajmaa.fnExactQueueHas
open Go.ChangeShapes Go.WideShapes Go.ChangeAt Go.RowKit
open Go.Proofs.YtfbifogoheajmaaW.PrintWords Go.Proofs.Ytfbifogoheajmaa.QFnExactQueueHas Go.Proofs.Ytfbifogoheajmaa.Opn
open Go.ChangeMaps (open_string shut_string)
set_option linter.unusedVariables false
set_option linter.unusedSimpArgs false
theorem own : ownKnob Try.prog.godebug = none := by kernel_rfl
theorem laidOut : laidOutB Try.prog = true := by kernel_rfl
theorem opensE165 : Opens Try.prog k165 (fun x => ((Lit.int .i64 x.f0).wf = true) ∧ (True) ∧ (True) ∧ (x.f3.size ≤ maxLen)) 165 := by
  have h : Opens Try.prog _ _ 165 := (Opens.struct (P := Try.prog) Try.underlying165 (by kernel_rfl) (OpensF.cons rfl (by kernel_rfl) (Opens.int (P := Try.prog) Try.underlying3) (OpensF.cons rfl (by kernel_rfl) (Opens.bool (P := Try.prog) Try.underlying4) (OpensF.cons rfl (by kernel_rfl) (Opens.bool (P := Try.prog) Try.underlying4) (OpensF.one rfl (by kernel_rfl) (Opens.string (P := Try.prog) Try.underlying9)) (by kernel_rfl)) (by kernel_rfl)) (by kernel_rfl)))
  intro H enc w base spare held fuel cs x hx
  obtain ⟨y_, hv, hK⟩ := h enc w base spare held fuel cs x hx
  exact ⟨⟨y_.1, y_.2.1, y_.2.2.1, y_.2.2.2⟩, by simpa [and_assoc] using hv, hK⟩
set_option maxRecDepth 100000 in
set_option maxHeartbeats 4000000 in
theorem lifted (os : Os) (started : os.Started) (H : Type) (enc : TypeId × Value → H) :
    ReturnsInHanded {} Try.checked os 7 .any (Rows.fnExactQueueHasSpec.pre6 enc Try.prog Try.f7 Rows.fnExactQueueHasRow.domain false) (Rows.fnExactQueueHasSpec.post enc Try.prog Try.f7 false true false false) := by
  refine returnsInHanded_of_change_sized (C := Try.checked) own started (by kernel_rfl) Try.func7
    (ChangeSpec.witness6 (enc := enc) (C := Try.checked) false ⟨#[], #[.agg #[.bool false, .int .i64 0, .int .i64 0, .slice none 0 0, .int .i64 0, .int .i64 0, .int .i64 0, .int .i64 0, .int .i64 0], .int .i64 0], []⟩ 8 (by kernel_rfl) (by kernel_rfl) (by kernel_rfl) (by kernel_rfl)) ?_
  intro W base args ds gs before hval0 hW hcnd hsz0 _
  have hsz : (DataW.weightsEach Try.prog (Try.f7.params.toList ++ Rows.fnExactQueueHasSpec.plain.varTypes Try.prog) (ds ++ gs)).all (· ≤ reachBytes) = true := hsz0
  have hval : ∀ (j : Nat) t v, Try.f7.params[j]? = some t → args[j]? = some v → Value.okWide Try.prog W .any base t v := hval0
  have hW' := hW
  obtain ⟨p, q, hA0, hV, rfl, hfz, hnd⟩ := hW
  have hA : DataW.TrodAll enc Try.prog W 0 (fun _ => true) true Try.f7.params.toList args.toList ds p := hA0
  rw [Try.params7] at hA hval hsz
  obtain ⟨v0, vs0, d0, ds0, p0, q0, hargs, rfl, rfl, h0, r0⟩ := trodAll_cons hA
  obtain ⟨v1, vs1, d1, ds1, p1, q1, rfl, rfl, rfl, h1, r1⟩ := trodAll_cons r0
  obtain ⟨rfl, rfl, rfl⟩ := trodAll_nil r1
  obtain rfl : args = #[v0, v1] := by cases args; simp_all
  obtain ⟨rfl, rfl⟩ := trodVars_none hV
  have k0_ := h0
  have lt0 : ∀ x ∈ p0, x.block < W.heap.size := by obtain ⟨m, hm⟩ := k0_; exact DataW.trod_lt m _ _ _ hm
  obtain ⟨cs0, rfl, _⟩ := okWide_struct Try.underlying53 (hval 0 53 v0 rfl rfl)
  obtain ⟨fu0, hm0⟩ := h0
  obtain ⟨⟨a0_0, a0_1, a0_2, l0_3, a0_4, a0_5, a0_6, a0_7, a0_8⟩, hok0, hK0⟩ := (Opens.struct (P := Try.prog) Try.underlying53 (by kernel_rfl) (OpensF.cons rfl (by kernel_rfl) (Opens.bool (P := Try.prog) Try.underlying4) (OpensF.cons rfl (by kernel_rfl) (Opens.int (P := Try.prog) Try.underlying3) (OpensF.cons rfl (by kernel_rfl) (Opens.int (P := Try.prog) Try.underlying3) (OpensF.cons rfl (by kernel_rfl) (Opens.slice (P := Try.prog) Try.underlying51 (by kernel_rfl) 165 opensE165) (OpensF.cons rfl (by kernel_rfl) (Opens.int (P := Try.prog) Try.underlying3) (OpensF.cons rfl (by kernel_rfl) (Opens.int (P := Try.prog) Try.underlying3) (OpensF.cons rfl (by kernel_rfl) (Opens.int (P := Try.prog) Try.underlying3) (OpensF.cons rfl (by kernel_rfl) (Opens.int (P := Try.prog) Try.underlying3) (OpensF.one rfl (by kernel_rfl) (Opens.int (P := Try.prog) Try.underlying3)) (by kernel_rfl)) (by kernel_rfl)) (by kernel_rfl)) (by kernel_rfl)) (by kernel_rfl)) (by kernel_rfl)) (by kernel_rfl)) (by kernel_rfl))) enc W 0 _ _ fu0 _ _ hm0
  obtain ⟨_, w0_1, w0_2, ⟨m0_3, o0_3⟩, w0_4, w0_5, w0_6, w0_7, w0_8⟩ := hok0
  obtain ⟨_, _, hcs0, rfl, ⟨_, _, rfl, rfl, ⟨_, _, rfl, rfl, ⟨_, _, rfl, ⟨A0_3, c0_3, rfl, hc0_3, hr0_3⟩, ⟨_, _, rfl, rfl, ⟨_, _, rfl, rfl, ⟨_, _, rfl, rfl, ⟨_, _, rfl, rfl, rfl⟩⟩⟩⟩⟩⟩⟩⟩ := hK0
  obtain rfl : cs0 = #[.bool a0_0, .int .i64 a0_1, .int .i64 a0_2, .slice A0_3 l0_3.length c0_3, .int .i64 a0_4, .int .i64 a0_5, .int .i64 a0_6, .int .i64 a0_7, .int .i64 a0_8] := by
    have e_ : cs0.toList = [.bool a0_0, .int .i64 a0_1, .int .i64 a0_2, .slice A0_3 l0_3.length c0_3, .int .i64 a0_4, .int .i64 a0_5, .int .i64 a0_6, .int .i64 a0_7, .int .i64 a0_8] := hcs0
    rw [← Array.toArray_toList (xs := cs0), e_]
  obtain ⟨a1, rfl, rfl, rfl, w1⟩ := open_int Try.underlying3 (hval 1 3 v1 rfl rfl) h1
  clear hA0 hval0 hsz0 hsz
  obtain ⟨k, hP⟩ := Pure.FnExactQueueHas (a0_0 := a0_0) (a0_1 := a0_1) (a0_2 := a0_2) (l0_3 := l0_3) (a0_4 := a0_4) (a0_5 := a0_5) (a0_6 := a0_6) (a0_7 := a0_7) (a0_8 := a0_8) (a1 := a1) (m0_3 := m0_3) (o0_3 := o0_3)
  refine (laws_FnExactQueueHas.calls k a0_0 a0_1 a0_2 _ _ l0_3 a0_4 a0_5 a0_6 a0_7 a0_8 a1 true W hr0_3 hc0_3 hP (Aside0.mk rfl)).mono fun e W' ⟨he, bel⟩ => ?_
  subst he
  exact ⟨_, rfl, _, _, _, [], _, [], hW', trodAll_mk1 (shut_bool Try.underlying4 _), (trodAll_cons_mk (Below.trod laidOut (by kernel_rfl) (of_decide_eq_true (by kernel_rfl)) k0_ bel lt0) (trodAll_cons_mk (shut_int Try.underlying3 w1) trodAll_mk0)), rfl, bel.frame _, fun h => by cases h⟩
theorem over : Rows.fnExactQueueHasRow.holds Try.pinned (OpenSpec.ofChange Rows.fnExactQueueHasSpec) :=
  OpenClaim.holds_of_wide 7 Try.f7 rfl rfl rfl rfl rfl rfl rfl ⟨rfl, rfl, rfl, rfl, rfl⟩ rfl rfl rfl rfl rfl (by kernel_rfl) Try.func7 (by kernel_rfl)
    (of_decide_eq_true (by kernel_rfl)) (by unfold Func.isWrapper; first | (rw [if_pos (by decide +kernel)]; kernel_rfl) | (rw [if_neg (by decide +kernel)]; exact ⟨rfl, rfl⟩))
    (fun os started H enc _ => lifted os started H enc)
theorem proved : Rows.FnExactQueueHasSaid := over
#print axioms proved
end Go.Proofs.Ytfbifogoheajmaa.fnExactQueueHas
namespace Go.Proofs.Ytfbifogoheajmaa
/-- The row, under a short name, for the claim. -/
theorem fnExactQueueHas_holds : Rows.FnExactQueueHasSaid := fnExactQueueHas.proved
end Go.Proofs.Ytfbifogoheajmaa
