/- The row of the law FnExactTileBack: for every input the law returns true, and each argument reads behind the call as it read before. Conditions: none. -/
import Derived.Test.YtlebkepfhdjnmacRows
import Derived.Test.YtlebkepfhdjnmacFFnExactTileBackx1
import Derived.Test.YtlebkepfhdjnmacPureFnExactTileBack
import Derived.WalkKit
import Derived.ProofKit
import Derived.OpenShut
import Derived.ShutString
import Derived.ChangeOld
import Derived.Below
import Derived.SizedLaws
import Derived.Carry
namespace Go.Proofs.Ytlebkepfhdjnmac.fnExactTileBack
open Go.ChangeShapes Go.WideShapes Go.ChangeAt Go.RowKit
open Go.Proofs.YtlebkepfhdjnmacAL Go.Proofs.Ytlebkepfhdjnmac.A
open Go.ChangeMaps (open_string shut_string)
set_option linter.unusedVariables false
set_option linter.unusedSimpArgs false
theorem own : ownKnob Try.prog.godebug = none := by kernel_rfl
theorem laidOut : laidOutB Try.prog = true := by kernel_rfl
theorem reads74 : Xbw Try.prog (fun x : Go.Proofs.Ytlebkepfhdjnmac.A.Pic => [.int .i64 x.Wide, .int .i64 x.High, .str x.Dots]) Yhq 74 :=
 Xbw.map (Xbw.struct (sz := 3) Try.underlying74 (by kernel_rfl) (Xej.cons (sz := 1) (sz2 := 2) rfl (by kernel_rfl) (Xbw.int (P := Try.prog) Try.underlying3) (Xej.cons (sz := 1) (sz2 := 1) rfl (by kernel_rfl) (Xbw.int (P := Try.prog) Try.underlying3) (Xej.one (sz := 1) rfl (by kernel_rfl) (Xbw.string (P := Try.prog) Try.underlying9)) (by kernel_rfl)) (by kernel_rfl))) (fun y => ⟨y.1, y.2.1, y.2.2⟩) (fun _ => rfl) (fun _ h => h)
theorem reads75 : Xbw Try.prog (fun x : Go.Proofs.Ytlebkepfhdjnmac.A.Rect => [.int .i64 x.Left, .int .i64 x.Top, .int .i64 x.Wide, .int .i64 x.High]) Yf4 75 :=
 Xbw.map (Xbw.struct (sz := 4) Try.underlying75 (by kernel_rfl) (Xej.cons (sz := 1) (sz2 := 3) rfl (by kernel_rfl) (Xbw.int (P := Try.prog) Try.underlying3) (Xej.cons (sz := 1) (sz2 := 2) rfl (by kernel_rfl) (Xbw.int (P := Try.prog) Try.underlying3) (Xej.cons (sz := 1) (sz2 := 1) rfl (by kernel_rfl) (Xbw.int (P := Try.prog) Try.underlying3) (Xej.one (sz := 1) rfl (by kernel_rfl) (Xbw.int (P := Try.prog) Try.underlying3)) (by kernel_rfl)) (by kernel_rfl)) (by kernel_rfl))) (fun y => ⟨y.1, y.2.1, y.2.2.1, y.2.2.2⟩) (fun _ => rfl) (fun _ h => h)
theorem reads76 : Xbw Try.prog (fun x : Go.Proofs.Ytlebkepfhdjnmac.A.Cond => [.bool x.Key, .int .i64 x.Qp, .bool x.Large, .bool x.Exact]) Yf3 76 :=
 Xbw.map (Xbw.struct (sz := 4) Try.underlying76 (by kernel_rfl) (Xej.cons (sz := 1) (sz2 := 3) rfl (by kernel_rfl) (Xbw.bool (P := Try.prog) Try.underlying4) (Xej.cons (sz := 1) (sz2 := 2) rfl (by kernel_rfl) (Xbw.int (P := Try.prog) Try.underlying3) (Xej.cons (sz := 1) (sz2 := 1) rfl (by kernel_rfl) (Xbw.bool (P := Try.prog) Try.underlying4) (Xej.one (sz := 1) rfl (by kernel_rfl) (Xbw.bool (P := Try.prog) Try.underlying4)) (by kernel_rfl)) (by kernel_rfl)) (by kernel_rfl))) (fun y => ⟨y.1, y.2.1, y.2.2.1, y.2.2.2⟩) (fun _ => rfl) (fun _ h => h)
theorem reads130 : Xbw Try.prog (fun x : Go.Proofs.Ytlebkepfhdjnmac.A.Square => [.int .i64 x.Kind, .int .i64 x.Mode, .int .i64 x.Dx, .int .i64 x.Dy, .ints .i64 x.Levels]) Ybo 130 :=
 Xbw.map (Xbw.struct (sz := 5) Try.underlying130 (by kernel_rfl) (Xej.cons (sz := 1) (sz2 := 4) rfl (by kernel_rfl) (Xbw.int (P := Try.prog) Try.underlying3) (Xej.cons (sz := 1) (sz2 := 3) rfl (by kernel_rfl) (Xbw.int (P := Try.prog) Try.underlying3) (Xej.cons (sz := 1) (sz2 := 2) rfl (by kernel_rfl) (Xbw.int (P := Try.prog) Try.underlying3) (Xej.cons (sz := 1) (sz2 := 1) rfl (by kernel_rfl) (Xbw.int (P := Try.prog) Try.underlying3) (Xej.one (sz := 1) rfl (by kernel_rfl) (Xbw.ints (P := Try.prog) Try.underlying31 Try.underlying3 (by kernel_rfl))) (by kernel_rfl)) (by kernel_rfl)) (by kernel_rfl)) (by kernel_rfl))) (fun y => ⟨y.1, y.2.1, y.2.2.1, y.2.2.2.1, y.2.2.2.2⟩) (fun _ => rfl) (fun _ h => h)
set_option maxRecDepth 100000 in
set_option maxHeartbeats 4000000 in
theorem lifted (os : Os) (started : os.Started) (H : Type) (enc : TypeId × Value → H) :
  ReturnsInHanded {} Try.checked os 7 .any (Rows.fnExactTileBackSpec.pre6 enc Try.prog Try.f7 Rows.fnExactTileBackRow.domain false) (Rows.fnExactTileBackSpec.post enc Try.prog Try.f7 false true false false) := by
 refine returnsInHanded_of_change_sized (C := Try.checked) own started (by kernel_rfl) Try.func7
  (ChangeSpec.witness6 (enc := enc) (C := Try.checked) false ⟨#[], #[.agg #[.int .i64 0, .int .i64 0, .string ByteArray.empty], .agg #[.int .i64 0, .int .i64 0, .int .i64 0, .int .i64 0], .agg #[.bool false, .int .i64 0, .bool false, .bool false], .bool false, .slice none 0 0], []⟩ 8 (by kernel_rfl) (by kernel_rfl) (by kernel_rfl) (by kernel_rfl)) ?_
 intro W base args ds gs before hval0 hW hcnd hsz0 _
 have hval : ∀ (j : Nat) t v, Try.f7.params[j]? = some t → args[j]? = some v → Value.okWide Try.prog W .any base t v := hval0
 have hW' := hW
 obtain ⟨p, q, hA0, hV, rfl, hfz, hnd⟩ := hW
 have hA : DataW.TrodAll enc Try.prog W 0 (fun _ => true) true Try.f7.params.toList args.toList ds p := hA0
 rw [Try.params7] at hA hval
 obtain ⟨v0, vs0, d0, ds0, p0, q0, hargs, rfl, rfl, h0, r0⟩ := trodAll_cons hA
 obtain ⟨v1, vs1, d1, ds1, p1, q1, rfl, rfl, rfl, h1, r1⟩ := trodAll_cons r0
 obtain ⟨v2, vs2, d2, ds2, p2, q2, rfl, rfl, rfl, h2, r2⟩ := trodAll_cons r1
 obtain ⟨v3, vs3, d3, ds3, p3, q3, rfl, rfl, rfl, h3, r3⟩ := trodAll_cons r2
 obtain ⟨v4, vs4, d4, ds4, p4, q4, rfl, rfl, rfl, h4, r4⟩ := trodAll_cons r3
 obtain ⟨rfl, rfl, rfl⟩ := trodAll_nil r4
 obtain rfl : args = #[v0, v1, v2, v3, v4] := by cases args; simp_all
 obtain ⟨rfl, rfl⟩ := trodVars_none hV
 have k0_ := h0
 have lt0 : ∀ x ∈ p0, x.block < W.heap.size := by obtain ⟨m, hm⟩ := k0_; exact DataW.trod_lt m _ _ _ hm
 obtain ⟨cs0, rfl, _⟩ := okWide_struct Try.underlying74 (hval 0 74 v0 rfl rfl)
 obtain ⟨fu0, hm0⟩ := h0
 obtain ⟨a0, y0, f0⟩ := reads74 enc W 0 _ _ fu0 _ _ hm0
 have k1_ := h1
 have lt1 : ∀ x ∈ p1, x.block < W.heap.size := by obtain ⟨m, hm⟩ := k1_; exact DataW.trod_lt m _ _ _ hm
 obtain ⟨cs1, rfl, _⟩ := okWide_struct Try.underlying75 (hval 1 75 v1 rfl rfl)
 obtain ⟨fu1, hm1⟩ := h1
 obtain ⟨a1, y1, f1⟩ := reads75 enc W 0 _ _ fu1 _ _ hm1
 have k2_ := h2
 have lt2 : ∀ x ∈ p2, x.block < W.heap.size := by obtain ⟨m, hm⟩ := k2_; exact DataW.trod_lt m _ _ _ hm
 obtain ⟨cs2, rfl, _⟩ := okWide_struct Try.underlying76 (hval 2 76 v2 rfl rfl)
 obtain ⟨fu2, hm2⟩ := h2
 obtain ⟨a2, y2, f2⟩ := reads76 enc W 0 _ _ fu2 _ _ hm2
 obtain ⟨a3, rfl, rfl, rfl⟩ := open_bool Try.underlying4 (hval 3 4 v3 rfl rfl) h3
 have k4_ := h4
 have lt4 : ∀ x ∈ p4, x.block < W.heap.size := by obtain ⟨m, hm⟩ := k4_; exact DataW.trod_lt m _ _ _ hm
 obtain ⟨b4, len4, cap4, rfl⟩ := okWide_slice Try.underlying77 (hval 4 77 v4 rfl rfl)
 obtain ⟨fu4, hm4⟩ := h4
 obtain ⟨a4, y4, f4⟩ := (Xbw.row (P := Try.prog) Xce Xon Try.underlying77 (by kernel_rfl) reads130) enc W 0 _ _ fu4 _ _ hm4
 clear hA0 hval0 hsz0
 have hP := Pure.FnExactTileBack (p0 := a0) (p1 := a1) (p2 := a2) (p3 := a3) (p4 := a4) (h0 := y0) (h1 := y1) (h2 := y2) (h4 := y4)
 refine (Yen (Xjw hP) (us := [.agg cs0, .agg cs1, .agg cs2, .bool a3, .slice b4 len4 cap4]) ⟨Yas f0, Yas f1, Yas f2, .sv (.bool _), Ygr f4, trivial⟩).mono fun e W' ⟨he, bel⟩ => ?_
 subst he
 exact ⟨_, rfl, _, _, _, [], _, [], hW', trodAll_mk1 (shut_bool Try.underlying4 _), (trodAll_cons_mk (Below.trod laidOut (by kernel_rfl) (of_decide_eq_true (by kernel_rfl)) k0_ bel lt0) (trodAll_cons_mk (Below.trod laidOut (by kernel_rfl) (of_decide_eq_true (by kernel_rfl)) k1_ bel lt1) (trodAll_cons_mk (Below.trod laidOut (by kernel_rfl) (of_decide_eq_true (by kernel_rfl)) k2_ bel lt2) (trodAll_cons_mk (shut_bool Try.underlying4 _) (trodAll_cons_mk (Below.trod laidOut (by kernel_rfl) (of_decide_eq_true (by kernel_rfl)) k4_ bel lt4) trodAll_mk0))))), rfl, bel.frame _, fun h => by cases h⟩
theorem c_inPlace : (Rows.fnExactTileBackRow.inPlace == Try.prog.inPlace 7) = true := by kernel_rfl
theorem c_unfollowed : (Rows.fnExactTileBackRow.unfollowed == Try.prog.unfollowed 7) = true := by kernel_rfl
theorem c_recurses : (Rows.fnExactTileBackRow.recurses == Try.prog.recurses 7) = true := by kernel_rfl
theorem c_named : (Rows.fnExactTileBackRow.named == Try.prog.varsNamed 7) = true := by kernel_rfl
theorem c_maps : mapsRowed Try.prog = true := by kernel_rfl
theorem closed : joinedFacts Try.prog 7 Try.f7 Rows.fnExactTileBackSpec Rows.fnExactTileBackRow = true := by
 unfold joinedFacts
 rw [laidOut, c_maps, c_inPlace, c_unfollowed, c_recurses, c_named]
 kernel_rfl
theorem over : Rows.fnExactTileBackRow.holds Try.pinned (OpenSpec.ofChange Rows.fnExactTileBackSpec) :=
 OpenClaim.holds_of_wide 7 Try.f7 rfl rfl rfl rfl rfl rfl rfl ⟨rfl, rfl, rfl, rfl, rfl⟩ rfl rfl rfl rfl rfl (by kernel_rfl) Try.func7 closed
  (of_decide_eq_true (by kernel_rfl)) (by unfold Func.isWrapper; first | (rw [if_pos (by decide +kernel)]; kernel_rfl) | (rw [if_neg (by decide +kernel)]; exact ⟨rfl, rfl⟩))
  (fun os started H enc _ => lifted os started H enc)
theorem proved : Rows.FnExactTileBackSaid := over
#print axioms proved
end Go.Proofs.Ytlebkepfhdjnmac.fnExactTileBack
namespace Go.Proofs.Ytlebkepfhdjnmac
/-- The row, under a short name, for the claim. -/
theorem fnExactTileBack_holds : Rows.FnExactTileBackSaid := fnExactTileBack.proved
end Go.Proofs.Ytlebkepfhdjnmac
