/- The row of the law FnExactDecAll: for every input the law returns true, and each argument reads behind the call as it read before. Conditions: none. -/
import Derived.Test.YtjgbfopmjpkkhaaGreatRows
import Derived.Test.YtjgbfopmjpkkhaaGreatFFnExactDecAllx2
import Derived.Test.YtjgbfopmjpkkhaaGreatPureFnExactDecAll
import Derived.WalkKit
import Derived.ProofKit
import Derived.OpenShut
import Derived.ShutString
import Derived.ChangeOld
import Derived.Below
import Derived.SizedLaws
import Derived.Carry
namespace Go.Proofs.YtjgbfopmjpkkhaaGreat.fnExactDecAll
open Go.ChangeShapes Go.WideShapes Go.ChangeAt Go.RowKit
open Go.Proofs.YtjgbfopmjpkkhaaGreatAL Go.Proofs.YtjgbfopmjpkkhaaGreat.A
open Go.ChangeMaps (open_string shut_string)
set_option linter.unusedVariables false
set_option linter.unusedSimpArgs false
theorem own : ownKnob Tryz.prog.godebug = none := by kernel_rfl
theorem laidOut : laidOutB Tryz.prog = true := by kernel_rfl
theorem reads24 : Xc0 Tryz.prog (fun x : Go.Proofs.YtjgbfopmjpkkhaaGreat.A.Seq => [.int .i64 x.Level, .int .i64 x.Bits, .ints .i64 x.Cols, .ints .i64 x.Rows]) Yyy 24 :=
 Xc0.map (Xc0.struct (sz := 4) Tryz.underlying24 (by kernel_rfl) (Xfj.cons (sz := 1) (sz2 := 3) rfl (by kernel_rfl) (Xc0.int (P := Tryz.prog) Tryz.underlying3) (Xfj.cons (sz := 1) (sz2 := 2) rfl (by kernel_rfl) (Xc0.int (P := Tryz.prog) Tryz.underlying3) (Xfj.cons (sz := 1) (sz2 := 1) rfl (by kernel_rfl) (Xc0.ints (P := Tryz.prog) Tryz.underlying22 Tryz.underlying3 (by kernel_rfl)) (Xfj.one (sz := 1) rfl (by kernel_rfl) (Xc0.ints (P := Tryz.prog) Tryz.underlying22 Tryz.underlying3 (by kernel_rfl))) (by kernel_rfl)) (by kernel_rfl)) (by kernel_rfl))) (fun y => ⟨y.1, y.2.1, y.2.2.1, y.2.2.2⟩) (fun _ => rfl) (fun _ h => h)
theorem reads26 : Xc0 Tryz.prog (fun x : Go.Proofs.YtjgbfopmjpkkhaaGreat.A.Par => [.int .i64 x.Qp, .bool x.Large, .bool x.Exact, .bool x.Confined]) Yyx 26 :=
 Xc0.map (Xc0.struct (sz := 4) Tryz.underlying26 (by kernel_rfl) (Xfj.cons (sz := 1) (sz2 := 3) rfl (by kernel_rfl) (Xc0.int (P := Tryz.prog) Tryz.underlying3) (Xfj.cons (sz := 1) (sz2 := 2) rfl (by kernel_rfl) (Xc0.bool (P := Tryz.prog) Tryz.underlying4) (Xfj.cons (sz := 1) (sz2 := 1) rfl (by kernel_rfl) (Xc0.bool (P := Tryz.prog) Tryz.underlying4) (Xfj.one (sz := 1) rfl (by kernel_rfl) (Xc0.bool (P := Tryz.prog) Tryz.underlying4)) (by kernel_rfl)) (by kernel_rfl)) (by kernel_rfl))) (fun y => ⟨y.1, y.2.1, y.2.2.1, y.2.2.2⟩) (fun _ => rfl) (fun _ h => h)
theorem reads28 : Xc0 Tryz.prog (fun x : Go.Proofs.YtjgbfopmjpkkhaaGreat.A.Pic => [.int .i64 x.Wide, .int .i64 x.High, .str x.Dots]) Yxo 28 :=
 Xc0.map (Xc0.struct (sz := 3) Tryz.underlying28 (by kernel_rfl) (Xfj.cons (sz := 1) (sz2 := 2) rfl (by kernel_rfl) (Xc0.int (P := Tryz.prog) Tryz.underlying3) (Xfj.cons (sz := 1) (sz2 := 1) rfl (by kernel_rfl) (Xc0.int (P := Tryz.prog) Tryz.underlying3) (Xfj.one (sz := 1) rfl (by kernel_rfl) (Xc0.string (P := Tryz.prog) Tryz.underlying9)) (by kernel_rfl)) (by kernel_rfl))) (fun y => ⟨y.1, y.2.1, y.2.2⟩) (fun _ => rfl) (fun _ h => h)
theorem reads30 : Xc0 Tryz.prog (fun x : Go.Proofs.YtjgbfopmjpkkhaaGreat.A.Decoder => [.bool x.HasSeq, .bool x.HasPar, .bool x.HasRef, .int .i64 x.Seq.Level, .int .i64 x.Seq.Bits, .ints .i64 x.Seq.Cols, .ints .i64 x.Seq.Rows, .int .i64 x.Par.Qp, .bool x.Par.Large, .bool x.Par.Exact, .bool x.Par.Confined, .int .i64 x.Frame, .int .i64 x.Got, .int .i64 x.Now.Wide, .int .i64 x.Now.High, .str x.Now.Dots, .int .i64 x.Ref.Wide, .int .i64 x.Ref.High, .str x.Ref.Dots]) Yfm 30 :=
 Xc0.map (Xc0.struct (sz := 19) Tryz.underlying30 (by kernel_rfl) (Xfj.cons (sz := 1) (sz2 := 18) rfl (by kernel_rfl) (Xc0.bool (P := Tryz.prog) Tryz.underlying4) (Xfj.cons (sz := 1) (sz2 := 17) rfl (by kernel_rfl) (Xc0.bool (P := Tryz.prog) Tryz.underlying4) (Xfj.cons (sz := 1) (sz2 := 16) rfl (by kernel_rfl) (Xc0.bool (P := Tryz.prog) Tryz.underlying4) (Xfj.cons (sz := 4) (sz2 := 12) rfl (by kernel_rfl) reads24 (Xfj.cons (sz := 4) (sz2 := 8) rfl (by kernel_rfl) reads26 (Xfj.cons (sz := 1) (sz2 := 7) rfl (by kernel_rfl) (Xc0.int (P := Tryz.prog) Tryz.underlying3) (Xfj.cons (sz := 1) (sz2 := 6) rfl (by kernel_rfl) (Xc0.int (P := Tryz.prog) Tryz.underlying3) (Xfj.cons (sz := 3) (sz2 := 3) rfl (by kernel_rfl) reads28 (Xfj.one (sz := 3) rfl (by kernel_rfl) reads28) (by kernel_rfl)) (by kernel_rfl)) (by kernel_rfl)) (by kernel_rfl)) (by kernel_rfl)) (by kernel_rfl)) (by kernel_rfl)) (by kernel_rfl))) (fun y => ⟨y.1, y.2.1, y.2.2.1, y.2.2.2.1, y.2.2.2.2.1, y.2.2.2.2.2.1, y.2.2.2.2.2.2.1, y.2.2.2.2.2.2.2.1, y.2.2.2.2.2.2.2.2⟩) (fun _ => rfl) (fun _ h => h)
set_option maxRecDepth 100000 in
set_option maxHeartbeats 4000000 in
theorem lifted (os : Os) (started : os.Started) (H : Type) (enc : TypeId × Value → H) :
  ReturnsInHanded {} Tryz.checked os 5 .any (Rows.fnExactDecAllSpec.pre6 enc Tryz.prog Tryz.f5 Rows.fnExactDecAllRow.domain false) (Rows.fnExactDecAllSpec.post enc Tryz.prog Tryz.f5 false true false false) := by
 refine returnsInHanded_of_change_sized (C := Tryz.checked) own started (by kernel_rfl) Tryz.func5
  (ChangeSpec.witness6 (enc := enc) (C := Tryz.checked) false ⟨#[], #[.agg #[.bool false, .bool false, .bool false, .int .i64 0, .int .i64 0, .slice none 0 0, .slice none 0 0, .int .i64 0, .bool false, .bool false, .bool false, .int .i64 0, .int .i64 0, .int .i64 0, .int .i64 0, .string ByteArray.empty, .int .i64 0, .int .i64 0, .string ByteArray.empty], .slice none 0 0], []⟩ 8 (by kernel_rfl) (by kernel_rfl) (by kernel_rfl) (by kernel_rfl)) ?_
 intro W base args ds gs before hval0 hW hcnd hsz0 _
 have hval : ∀ (j : Nat) t v, Tryz.f5.params[j]? = some t → args[j]? = some v → Value.okWide Tryz.prog W .any base t v := hval0
 have hW' := hW
 obtain ⟨p, q, hA0, hV, rfl, hfz, hnd⟩ := hW
 have hA : DataW.TrodAll enc Tryz.prog W 0 (fun _ => true) true Tryz.f5.params.toList args.toList ds p := hA0
 rw [Tryz.params5] at hA hval
 obtain ⟨v0, vs0, d0, ds0, p0, q0, hargs, rfl, rfl, h0, r0⟩ := trodAll_cons hA
 obtain ⟨v1, vs1, d1, ds1, p1, q1, rfl, rfl, rfl, h1, r1⟩ := trodAll_cons r0
 obtain ⟨rfl, rfl, rfl⟩ := trodAll_nil r1
 obtain rfl : args = #[v0, v1] := by cases args; simp_all
 obtain ⟨rfl, rfl⟩ := trodVars_none hV
 have k0_ := h0
 have lt0 : ∀ x ∈ p0, x.block < W.heap.size := by obtain ⟨m, hm⟩ := k0_; exact DataW.trod_lt m _ _ _ hm
 obtain ⟨cs0, rfl, _⟩ := okWide_struct Tryz.underlying30 (hval 0 30 v0 rfl rfl)
 obtain ⟨fu0, hm0⟩ := h0
 obtain ⟨a0, y0, f0⟩ := reads30 enc W 0 _ _ fu0 _ _ hm0
 have k1_ := h1
 have lt1 : ∀ x ∈ p1, x.block < W.heap.size := by obtain ⟨m, hm⟩ := k1_; exact DataW.trod_lt m _ _ _ hm
 obtain ⟨b1, len1, cap1, rfl⟩ := okWide_slice Tryz.underlying52 (hval 1 52 v1 rfl rfl)
 obtain ⟨fu1, hm1⟩ := h1
 obtain ⟨a1, y1, f1⟩ := (Xc0.row (P := Tryz.prog) Xbh Xvi Tryz.underlying52 (by kernel_rfl) (Xc0.string (P := Tryz.prog) Tryz.underlying9)) enc W 0 _ _ fu1 _ _ hm1
 clear hA0 hval0 hsz0
 have hP := Pure.FnExactDecAll (p0 := a0) (p1 := a1) (h0 := y0) (h1 := y1)
 refine (Yu4 (Xro hP) (us := [.agg cs0, .slice b1 len1 cap1]) ⟨Yxq f0, Yxs f1, trivial⟩).mono fun e W' ⟨he, bel⟩ => ?_
 subst he
 exact ⟨_, rfl, _, _, _, [], _, [], hW', trodAll_mk1 (shut_bool Tryz.underlying4 _), (trodAll_cons_mk (Below.trod laidOut (by kernel_rfl) (of_decide_eq_true (by kernel_rfl)) k0_ bel lt0) (trodAll_cons_mk (Below.trod laidOut (by kernel_rfl) (of_decide_eq_true (by kernel_rfl)) k1_ bel lt1) trodAll_mk0)), rfl, bel.frame _, fun h => by cases h⟩
theorem c_inPlace : (Rows.fnExactDecAllRow.inPlace == Tryz.prog.inPlace 5) = true := by kernel_rfl
theorem c_unfollowed : (Rows.fnExactDecAllRow.unfollowed == Tryz.prog.unfollowed 5) = true := by kernel_rfl
theorem c_recurses : (Rows.fnExactDecAllRow.recurses == Tryz.prog.recurses 5) = true := by kernel_rfl
theorem c_named : (Rows.fnExactDecAllRow.named == Tryz.prog.varsNamed 5) = true := by kernel_rfl
theorem c_maps : mapsRowed Tryz.prog = true := by kernel_rfl
theorem closed : joinedFacts Tryz.prog 5 Tryz.f5 Rows.fnExactDecAllSpec Rows.fnExactDecAllRow = true := by
 unfold joinedFacts
 rw [laidOut, c_maps, c_inPlace, c_unfollowed, c_recurses, c_named]
 kernel_rfl
theorem over : Rows.fnExactDecAllRow.holds Tryz.pinned (OpenSpec.ofChange Rows.fnExactDecAllSpec) :=
 OpenClaim.holds_of_wide 5 Tryz.f5 rfl rfl rfl rfl rfl rfl rfl ⟨rfl, rfl, rfl, rfl, rfl⟩ rfl rfl rfl rfl rfl (by kernel_rfl) Tryz.func5 closed
  (of_decide_eq_true (by kernel_rfl)) (by unfold Func.isWrapper; first | (rw [if_pos (by decide +kernel)]; kernel_rfl) | (rw [if_neg (by decide +kernel)]; exact ⟨rfl, rfl⟩))
  (fun os started H enc _ => lifted os started H enc)
theorem proved : Rows.FnExactDecAllSaid := over
#print axioms proved
end Go.Proofs.YtjgbfopmjpkkhaaGreat.fnExactDecAll
namespace Go.Proofs.YtjgbfopmjpkkhaaGreat
/-- The row, under a short name, for the claim. -/
theorem fnExactDecAll_holds : Rows.FnExactDecAllSaid := fnExactDecAll.proved
end Go.Proofs.YtjgbfopmjpkkhaaGreat
