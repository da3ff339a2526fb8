/- The row of the law FnSends: for every input the law returns true, and each argument reads behind the call as it read before. Conditions: none. -/
import Derived.Test.YtlebkepfhdjnmacRows
import Derived.Test.YtlebkepfhdjnmacFFnSendsx1
import Derived.Test.YtlebkepfhdjnmacPureFnSends
import Derived.WalkKit
import Derived.ProofKit
import Derived.OpenShut
import Derived.ShutString
import Derived.ChangeOld
import Derived.Below
import Derived.SizedLaws
import Derived.Carry
namespace Go.Proofs.Ytlebkepfhdjnmac.fnSends
open Go.ChangeShapes Go.WideShapes Go.ChangeAt Go.RowKit
open Go.Proofs.YtlebkepfhdjnmacAL Go.Proofs.Ytlebkepfhdjnmac.A
open Go.ChangeMaps (open_string shut_string)
set_option linter.unusedVariables false
set_option linter.unusedSimpArgs false
theorem own : ownKnob Try.prog.godebug = none := by kernel_rfl
theorem laidOut : laidOutB Try.prog = true := by kernel_rfl
set_option maxRecDepth 100000 in
set_option maxHeartbeats 4000000 in
theorem lifted (os : Os) (started : os.Started) (H : Type) (enc : TypeId × Value → H) :
  ReturnsInHanded {} Try.checked os 6 .any (Rows.fnSendsSpec.pre6 enc Try.prog Try.f6 Rows.fnSendsRow.domain false) (Rows.fnSendsSpec.post enc Try.prog Try.f6 false true false false) := by
 refine returnsInHanded_of_change_sized (C := Try.checked) own started (by kernel_rfl) Try.func6
  (ChangeSpec.witness6 (enc := enc) (C := Try.checked) false ⟨#[], #[.slice none 0 0], []⟩ 8 (by kernel_rfl) (by kernel_rfl) (by kernel_rfl) (by kernel_rfl)) ?_
 intro W base args ds gs before hval0 hW hcnd hsz0 _
 have hval : ∀ (j : Nat) t v, Try.f6.params[j]? = some t → args[j]? = some v → Value.okWide Try.prog W .any base t v := hval0
 have hW' := hW
 obtain ⟨p, q, hA0, hV, rfl, hfz, hnd⟩ := hW
 have hA : DataW.TrodAll enc Try.prog W 0 (fun _ => true) true Try.f6.params.toList args.toList ds p := hA0
 rw [Try.params6] at hA hval
 obtain ⟨v0, vs0, d0, ds0, p0, q0, hargs, rfl, rfl, h0, r0⟩ := trodAll_cons hA
 obtain ⟨rfl, rfl, rfl⟩ := trodAll_nil r0
 obtain rfl : args = #[v0] := by cases args; simp_all
 obtain ⟨rfl, rfl⟩ := trodVars_none hV
 have k0_ := h0
 have lt0 : ∀ x ∈ p0, x.block < W.heap.size := by obtain ⟨m, hm⟩ := k0_; exact DataW.trod_lt m _ _ _ hm
 obtain ⟨b0, len0, cap0, rfl⟩ := okWide_slice Try.underlying22 (hval 0 22 v0 rfl rfl)
 obtain ⟨fu0, hm0⟩ := h0
 obtain ⟨a0, y0, f0⟩ := (Xk7.ints (P := Try.prog) Try.underlying22 Try.underlying5 (by kernel_rfl)) enc W 0 _ _ fu0 _ _ hm0
 clear hA0 hval0 hsz0
 have hP := Pure.FnSends (p0 := a0) (h0 := y0)
 refine (Ym0 (Yae hP) (us := [.slice b0 len0 cap0]) ⟨Ypl f0, trivial⟩).mono fun e W' ⟨he, bel⟩ => ?_
 subst he
 exact ⟨_, rfl, _, _, _, [], _, [], hW', trodAll_mk1 (shut_bool Try.underlying4 _), (trodAll_cons_mk (Below.trod laidOut (by kernel_rfl) (of_decide_eq_true (by kernel_rfl)) k0_ bel lt0) trodAll_mk0), rfl, bel.frame _, fun h => by cases h⟩
theorem c_inPlace : (Rows.fnSendsRow.inPlace == Try.prog.inPlace 6) = true := by kernel_rfl
theorem c_unfollowed : (Rows.fnSendsRow.unfollowed == Try.prog.unfollowed 6) = true := by kernel_rfl
theorem c_recurses : (Rows.fnSendsRow.recurses == Try.prog.recurses 6) = true := by kernel_rfl
theorem c_named : (Rows.fnSendsRow.named == Try.prog.varsNamed 6) = true := by kernel_rfl
theorem c_maps : mapsRowed Try.prog = true := by kernel_rfl
theorem closed : joinedFacts Try.prog 6 Try.f6 Rows.fnSendsSpec Rows.fnSendsRow = true := by
 unfold joinedFacts
 rw [laidOut, c_maps, c_inPlace, c_unfollowed, c_recurses, c_named]
 kernel_rfl
theorem over : Rows.fnSendsRow.holds Try.pinned (OpenSpec.ofChange Rows.fnSendsSpec) :=
 OpenClaim.holds_of_wide 6 Try.f6 rfl rfl rfl rfl rfl rfl rfl ⟨rfl, rfl, rfl, rfl, rfl⟩ rfl rfl rfl rfl rfl (by kernel_rfl) Try.func6 closed
  (of_decide_eq_true (by kernel_rfl)) (by unfold Func.isWrapper; first | (rw [if_pos (by decide +kernel)]; kernel_rfl) | (rw [if_neg (by decide +kernel)]; exact ⟨rfl, rfl⟩))
  (fun os started H enc _ => lifted os started H enc)
theorem proved : Rows.FnSendsSaid := over
#print axioms proved
end Go.Proofs.Ytlebkepfhdjnmac.fnSends
namespace Go.Proofs.Ytlebkepfhdjnmac
/-- The row, under a short name, for the claim. -/
theorem fnSends_holds : Rows.FnSendsSaid := fnSends.proved
end Go.Proofs.Ytlebkepfhdjnmac
