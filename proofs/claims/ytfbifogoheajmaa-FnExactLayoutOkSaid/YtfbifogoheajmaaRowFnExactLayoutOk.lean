/- The row of the law FnExactLayoutOk: for every input the law returns true, and each argument reads behind the call as it read before. Conditions: none. -/
import Derived.Test.YtfbifogoheajmaaRows
import Derived.Test.YtfbifogoheajmaaQFnExactLayoutOkx5
import Derived.Test.YtfbifogoheajmaaPureFnExactLayoutOk
import Derived.Test.YtfbifogoheajmaaOpen
import Derived.WalkKit
import Derived.ProofKit
import Derived.OpenShut
import Derived.ShutString
import Derived.ChangeOld
import Derived.Below
import Derived.SizedLaws
import Derived.Carry
namespace Go.Proofs.Ytfbifogoheajmaa.fnExactLayoutOk
open Go.ChangeShapes Go.WideShapes Go.ChangeAt Go.RowKit
open Go.Proofs.YtfbifogoheajmaaW.PrintWords Go.Proofs.Ytfbifogoheajmaa.QFnExactLayoutOk Go.Proofs.Ytfbifogoheajmaa.Opn
open Go.ChangeMaps (open_string shut_string)
set_option linter.unusedVariables false
set_option linter.unusedSimpArgs false
theorem own : ownKnob Try.prog.godebug = none := by kernel_rfl
theorem laidOut : laidOutB Try.prog = true := by kernel_rfl
set_option maxRecDepth 100000 in
set_option maxHeartbeats 4000000 in
theorem lifted (os : Os) (started : os.Started) (H : Type) (enc : TypeId × Value → H) :
    ReturnsInHanded {} Try.checked os 4 .any (Rows.fnExactLayoutOkSpec.pre6 enc Try.prog Try.f4 Rows.fnExactLayoutOkRow.domain false) (Rows.fnExactLayoutOkSpec.post enc Try.prog Try.f4 false true false false) := by
  refine returnsInHanded_of_change_sized (C := Try.checked) own started (by kernel_rfl) Try.func4
    (ChangeSpec.witness6 (enc := enc) (C := Try.checked) false ⟨#[], #[.agg #[.slice none 0 0, .slice none 0 0, .slice none 0 0]], []⟩ 8 (by kernel_rfl) (by kernel_rfl) (by kernel_rfl) (by kernel_rfl)) ?_
  intro W base args ds gs before hval0 hW hcnd hsz0 _
  have hsz : (DataW.weightsEach Try.prog (Try.f4.params.toList ++ Rows.fnExactLayoutOkSpec.plain.varTypes Try.prog) (ds ++ gs)).all (· ≤ reachBytes) = true := hsz0
  have hval : ∀ (j : Nat) t v, Try.f4.params[j]? = some t → args[j]? = some v → Value.okWide Try.prog W .any base t v := hval0
  have hW' := hW
  obtain ⟨p, q, hA0, hV, rfl, hfz, hnd⟩ := hW
  have hA : DataW.TrodAll enc Try.prog W 0 (fun _ => true) true Try.f4.params.toList args.toList ds p := hA0
  rw [Try.params4] at hA hval hsz
  obtain ⟨v0, vs0, d0, ds0, p0, q0, hargs, rfl, rfl, h0, r0⟩ := trodAll_cons hA
  obtain ⟨rfl, rfl, rfl⟩ := trodAll_nil r0
  obtain rfl : args = #[v0] := by cases args; simp_all
  obtain ⟨rfl, rfl⟩ := trodVars_none hV
  have k0_ := h0
  have lt0 : ∀ x ∈ p0, x.block < W.heap.size := by obtain ⟨m, hm⟩ := k0_; exact DataW.trod_lt m _ _ _ hm
  obtain ⟨cs0, rfl, _⟩ := okWide_struct Try.underlying36 (hval 0 36 v0 rfl rfl)
  obtain ⟨fu0, hm0⟩ := h0
  obtain ⟨⟨l0_0, l0_1, l0_2⟩, hok0, hK0⟩ := (Opens.struct (P := Try.prog) Try.underlying36 (by kernel_rfl) (OpensF.cons rfl (by kernel_rfl) (Opens.slice (P := Try.prog) Try.underlying22 (by kernel_rfl) 3 (Opens.int (P := Try.prog) Try.underlying3)) (OpensF.cons rfl (by kernel_rfl) (Opens.slice (P := Try.prog) Try.underlying22 (by kernel_rfl) 3 (Opens.int (P := Try.prog) Try.underlying3)) (OpensF.one rfl (by kernel_rfl) (Opens.slice (P := Try.prog) Try.underlying22 (by kernel_rfl) 3 (Opens.int (P := Try.prog) Try.underlying3))) (by kernel_rfl)) (by kernel_rfl))) enc W 0 _ _ fu0 _ _ hm0
  obtain ⟨⟨m0_0, o0_0⟩, ⟨m0_1, o0_1⟩, ⟨m0_2, o0_2⟩⟩ := hok0
  obtain ⟨_, _, hcs0, ⟨A0_0, c0_0, rfl, hc0_0, hr0_0⟩, ⟨_, _, rfl, ⟨A0_1, c0_1, rfl, hc0_1, hr0_1⟩, ⟨A0_2, c0_2, rfl, hc0_2, hr0_2⟩⟩⟩ := hK0
  obtain rfl : cs0 = #[.slice A0_0 l0_0.length c0_0, .slice A0_1 l0_1.length c0_1, .slice A0_2 l0_2.length c0_2] := by
    have e_ : cs0.toList = [.slice A0_0 l0_0.length c0_0, .slice A0_1 l0_1.length c0_1, .slice A0_2 l0_2.length c0_2] := hcs0
    rw [← Array.toArray_toList (xs := cs0), e_]
  clear hA0 hval0 hsz0 hsz
  obtain ⟨k, hP⟩ := Pure.FnExactLayoutOk (l0_0 := l0_0) (l0_1 := l0_1) (l0_2 := l0_2) (m0_0 := m0_0) (m0_1 := m0_1) (m0_2 := m0_2)
  refine (laws_FnExactLayoutOk.calls k _ _ l0_0 _ _ l0_1 _ _ l0_2 true W hr0_0 hc0_0 hr0_1 hc0_1 hr0_2 hc0_2 hP (Aside0.mk rfl)).mono fun e W' ⟨he, bel⟩ => ?_
  subst he
  exact ⟨_, rfl, _, _, _, [], _, [], hW', trodAll_mk1 (shut_bool Try.underlying4 _), (trodAll_cons_mk (Below.trod laidOut (by kernel_rfl) (of_decide_eq_true (by kernel_rfl)) k0_ bel lt0) trodAll_mk0), rfl, bel.frame _, fun h => by cases h⟩
theorem over : Rows.fnExactLayoutOkRow.holds Try.pinned (OpenSpec.ofChange Rows.fnExactLayoutOkSpec) :=
  OpenClaim.holds_of_wide 4 Try.f4 rfl rfl rfl rfl rfl rfl rfl ⟨rfl, rfl, rfl, rfl, rfl⟩ rfl rfl rfl rfl rfl (by kernel_rfl) Try.func4 (by kernel_rfl)
    (of_decide_eq_true (by kernel_rfl)) (by unfold Func.isWrapper; first | (rw [if_pos (by decide +kernel)]; kernel_rfl) | (rw [if_neg (by decide +kernel)]; exact ⟨rfl, rfl⟩))
    (fun os started H enc _ => lifted os started H enc)
theorem proved : Rows.FnExactLayoutOkSaid := over
#print axioms proved
end Go.Proofs.Ytfbifogoheajmaa.fnExactLayoutOk
namespace Go.Proofs.Ytfbifogoheajmaa
/-- The row, under a short name, for the claim. -/
theorem fnExactLayoutOk_holds : Rows.FnExactLayoutOkSaid := fnExactLayoutOk.proved
end Go.Proofs.Ytfbifogoheajmaa
