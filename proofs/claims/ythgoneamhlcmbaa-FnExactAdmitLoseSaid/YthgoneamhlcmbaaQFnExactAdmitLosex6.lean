/- Contracts of the functions that a law reaches: each Go function comes to what its Lean function tells. Written by this session's own program. Conditions: as each statement tells. -/
import Derived.Test.YthgoneamhlcmbaaQFnExactAdmitLosex0
import Derived.Test.YthgoneamhlcmbaaQFnExactAdmitLosex1
import Derived.Test.YthgoneamhlcmbaaQFnExactAdmitLosex4
import Derived.Test.YthgoneamhlcmbaaQFnExactAdmitLosex5
namespace Go.Proofs.Ythgoneamhlcmbaa.QFnExactAdmitLose
open Go.RowKit Go.Proofs.YthgoneamhlcmbaaW.PrintWords Go.Proofs.YthgoneamhlcmbaaW.PrintLast Go.Proofs.YthgoneamhlcmbaaW.PrintMore
attribute [local go_sem] i64_w i32_w w64_m256 max2_int min2_int max_two min_two max_three min_three max_four min_four   -- for this text's walks alone
set_option linter.unusedVariables false
set_option linter.unusedSimpArgs false

attribute [local go_sem high] eqA31
/-! ### impl_AdmitOk: function 18 -/
def impl_AdmitOk.j0 : Nat → Bool → Bool → Bool → Int → Int → List Int → List Int → Int → Bool → Bool → Bool → Int → Int → Int → Option (Bool)
  | 0, _, _, _, _, _, _, _, _, _, _, _, _, _, _ => none
  | k + 1, x12, x256000, x256001, x256002, x256003, x256004, x256005, x256006, x256007, x256008, x256009, x256010, x256011, x256012 => if x12 = true then (some false) else (if x256000 = true then ((impl_TilesOf.f k x256002 x256003 x256004 x256005).bind fun t258 => (if t258 = 1 then ((impl_ParOk.f x256006 x256007 x256008 x256009).bind fun t259 => (if t259 = true then (if 0 ≤ x256003 then ((impl_within.f x256010 0 (wrap64 ((shl .i64 1 x256003) - 1))).bind fun t260 => (some t260)) else (none)) else (some false))) else (some false))) else (if x256001 = true then (some false) else ((impl_isNoSeq.f x256002 x256003 x256004 x256005).bind fun t261 => (if t261 = true then (if (x256006 == 0 && (!x256007 && (!x256008 && (!x256009)))) = true then (some (x256010 == 0)) else (some false)) else (some false)))))
def impl_AdmitOk.f (k : Nat) (a0_0 : Bool) (a0_1 : Bool) (a0_2 : Int) (a0_3 : Int) (l0_4 : List Int) (l0_5 : List Int) (a0_6 : Int) (a0_7 : Bool) (a0_8 : Bool) (a0_9 : Bool) (a0_10 : Int) (a0_11 : Int) (a0_12 : Int) : Option (Bool) := (impl_within.f a0_11 0 1000000000).bind fun t256 => (if t256 = true then ((impl_within.f a0_12 0 1000000000).bind fun t257 => (impl_AdmitOk.j0 k (!t257) a0_0 a0_1 a0_2 a0_3 l0_4 l0_5 a0_6 a0_7 a0_8 a0_9 a0_10 a0_11 a0_12)) else (impl_AdmitOk.j0 k true a0_0 a0_1 a0_2 a0_3 l0_4 l0_5 a0_6 a0_7 a0_8 a0_9 a0_10 a0_11 a0_12))
theorem impl_AdmitOk.mono_l : ∀ k, (∀ y0 y1 y2 y3 y4 y5 y6 y7 y8 y9 y10 y11 y12 y13, LeO (impl_AdmitOk.j0 k y0 y1 y2 y3 y4 y5 y6 y7 y8 y9 y10 y11 y12 y13) (impl_AdmitOk.j0 (k + 1) y0 y1 y2 y3 y4 y5 y6 y7 y8 y9 y10 y11 y12 y13))
  | 0 => fun _ _ _ _ _ _ _ _ _ _ _ _ _ _ r h => by simp [impl_AdmitOk.j0] at h
  | k + 1 => by
    have ih0 := impl_AdmitOk.mono_l k
    · intro y0 y1 y2 y3 y4 y5 y6 y7 y8 y9 y10 y11 y12 y13
      unfold impl_AdmitOk.j0
      repeat' first
      | (with_reducible exact ih0 _ _ _ _ _ _ _ _ _ _ _ _ _ _)
      | (with_reducible exact impl_TilesOf.mono _ _ _ _ _)
      | (with_reducible exact LeO.refl _)
      | (with_reducible exact LeO.none _)
      | (with_reducible refine LeO.ite ?_ ?_)
      | (with_reducible refine LeO.bind ?_ (fun _ => ?_))
      | exact ih0 _ _ _ _ _ _ _ _ _ _ _ _ _ _
      | exact impl_TilesOf.mono _ _ _ _ _
      | exact LeO.none _
      | refine LeO.ite ?_ ?_
      | refine LeO.bind ?_ (fun _ => ?_)
theorem impl_AdmitOk.mono : ∀ a0 a1 a2 a3 a4 a5 a6 a7 a8 a9 a10 a11 a12 k, LeO (impl_AdmitOk.f k a0 a1 a2 a3 a4 a5 a6 a7 a8 a9 a10 a11 a12) (impl_AdmitOk.f (k + 1) a0 a1 a2 a3 a4 a5 a6 a7 a8 a9 a10 a11 a12) := by
  intro a0 a1 a2 a3 a4 a5 a6 a7 a8 a9 a10 a11 a12 k
  have ih0 := impl_AdmitOk.mono_l k
  unfold impl_AdmitOk.f
  repeat' first
      | (with_reducible exact ih0 _ _ _ _ _ _ _ _ _ _ _ _ _ _)
      | (with_reducible exact impl_TilesOf.mono _ _ _ _ _)
      | (with_reducible exact LeO.refl _)
      | (with_reducible exact LeO.none _)
      | (with_reducible refine LeO.ite ?_ ?_)
      | (with_reducible refine LeO.bind ?_ (fun _ => ?_))
      | exact ih0 _ _ _ _ _ _ _ _ _ _ _ _ _ _
      | exact impl_TilesOf.mono _ _ _ _ _
      | exact LeO.none _
      | refine LeO.ite ?_ ?_
      | refine LeO.bind ?_ (fun _ => ?_)
def impl_AdmitOk.T5 : Bool × List (List Nat × List Nat) := (true, [([], []), ([0], [0]), ([1], [1]), ([2], [2]), ([3, 2], [3]), ([4], [4]), ([5, 4], [4, 5]), ([6, 4, 4], [4, 6]), ([4, 7], [4, 7]), ([8, 7], [8]), ([9], [9]), ([10, 9], [9, 10]), ([9], [9]), ([12, 9], [9, 12]), ([13, 9], [9, 13]), ([14, 9], [9, 14]), ([15, 9], [9, 15]), ([11, 16, 9, 9], [9, 11, 16]), ([9, 17], [9, 17]), ([18, 17, 0, 1, 2, 3, 4, 5, 6, 7, 8, 9, 10, 11, 12, 13, 14, 15, 16, 17, 18], [18])])
def impl_AdmitOk.B5 : List Nat := [0, 1, 3, 7, 15, 31, 63, 127, 255, 511, 1023, 2047, 1023, 5119, 13311, 29695, 62463, 131071, 262143, 524287]
theorem impl_AdmitOk.tab5 : rtab .any (opsOf Try.f18 5) = impl_AdmitOk.T5 := by kernel_rfl
theorem impl_AdmitOk.bits5 : waitsOk impl_AdmitOk.T5.2 impl_AdmitOk.B5 = true := by kernel_rfl
set_option maxHeartbeats 8000000 in
set_option maxRecDepth 100000 in
theorem impl_AdmitOk.calls (k : Nat) (a0_0 : Bool) (a0_1 : Bool) (a0_2 : Int) (a0_3 : Int) (A0_4 : Option Addr) (c0_4 : Nat) (l0_4 : List Int) (A0_5 : Option Addr) (c0_5 : Nat) (l0_5 : List Int) (a0_6 : Int) (a0_7 : Bool) (a0_8 : Bool) (a0_9 : Bool) (a0_10 : Int) (a0_11 : Int) (a0_12 : Int) (r : Bool) (w : World) (hr0_4 : Kd.C (Kd.int .i64) w A0_4 l0_4.length l0_4) (hc0_4 : l0_4.length ≤ c0_4) (hr0_5 : Kd.C (Kd.int .i64) w A0_5 l0_5.length l0_5) (hc0_5 : l0_5.length ≤ c0_5) (h : impl_AdmitOk.f k a0_0 a0_1 a0_2 a0_3 l0_4 l0_5 a0_6 a0_7 a0_8 a0_9 a0_10 a0_11 a0_12 = some r) :
    Calls Try.prog 18 #[.agg #[.bool a0_0, .bool a0_1, .int .i64 a0_2, .int .i64 a0_3, .slice A0_4 l0_4.length c0_4, .slice A0_5 l0_5.length c0_5, .int .i64 a0_6, .bool a0_7, .bool a0_8, .bool a0_9, .int .i64 a0_10, .int .i64 a0_11, .int .i64 a0_12]] w fun e w' => e = .returned (.bool r) ∧ Below w.heap.size w w' := by
  have hu33 := Try.underlying33
  have hu30 := Try.underlying30
  have hu31 := Try.underlying31
  have HR0_4 := Aside0.mk hr0_4
  have HC0_4 := Aside0.mk hc0_4
  clear hr0_4 hc0_4
  have HR0_5 := Aside0.mk hr0_5
  have HC0_5 := Aside0.mk hc0_5
  clear hr0_5 hc0_5
  have HB := Aside0.mk (Below.refl w.heap.size w)
  have H : ((impl_within.f a0_11 0 1000000000).bind fun t256 => (if t256 = true then ((impl_within.f a0_12 0 1000000000).bind fun t257 => (impl_AdmitOk.j0 k (!t257) a0_0 a0_1 a0_2 a0_3 l0_4 l0_5 a0_6 a0_7 a0_8 a0_9 a0_10 a0_11 a0_12)) else (impl_AdmitOk.j0 k true a0_0 a0_1 a0_2 a0_3 l0_4 l0_5 a0_6 a0_7 a0_8 a0_9 a0_10 a0_11 a0_12))) = some r := h
  clear h
  have HC2 := Aside0.mk H
  clear H
  go_enter Try.func18, Try.ntmps18
  go_upto_region 1 with (first | ((with_reducible refine gate_dst (N := 1) rfl ?_); refine box_event ?hg (N := 1) ?hd (cs := #[.bool a0_0, .bool a0_1, .int .i64 a0_2, .int .i64 a0_3, .slice A0_4 l0_4.length c0_4, .slice A0_5 l0_5.length c0_5, .int .i64 a0_6, .bool a0_7, .bool a0_8, .bool a0_9, .int .i64 a0_10, .int .i64 a0_11, .int .i64 a0_12]) (t := 33) ?hr ?_; (case hd => rfl); (case hg => rfl); (case hr => first | (go_simp; done) | (go_simp; rfl)); intro gb255 hg w3 hbox hb; have n0_ := bs HB hb; have n1_ := Aside0.mk (hbox); have n2_ := bz hg; have n3_ := bz hg; clear HB; have HB := n0_; have BK255 := n1_; have GW255 := n2_; have GE255 := n3_; clear n0_ n1_ n2_ n3_; clear hb hbox hg))
  (try simp only [Act.put, List.setIfInBounds_toArray, List.set_cons_zero, List.set_cons_succ])
  go_cut [12] (fun v12 wc => ∃ (kq : Nat) (x12_1 : Bool), v12 = .bool x12_1 ∧ Aside0 (impl_AdmitOk.j0 kq x12_1 a0_0 a0_1 a0_2 a0_3 l0_4 l0_5 a0_6 a0_7 a0_8 a0_9 a0_10 a0_11 a0_12 = some r) ∧ Aside0 (kq ≤ k) ∧ Aside0 (wc.heap[gb255]? = some (.cells #[.bool a0_0, .bool a0_1, .int .i64 a0_2, .int .i64 a0_3, (.slice A0_4 l0_4.length c0_4), (.slice A0_5 l0_5.length c0_5), .int .i64 a0_6, .bool a0_7, .bool a0_8, .bool a0_9, .int .i64 a0_10, .int .i64 a0_11, .int .i64 a0_12] 33 (0, 0))) ∧ Aside0 (Below w.heap.size w wc))
  case first =>
    have H := HC2.out
    clear HC2
    replace H := Option.bind_eq_some_iff.mp H
    obtain ⟨t256, A40, H⟩ := H
    (try dsimp only at H)
    have A4 := Aside0.mk A40
    clear A40
    by_cases c5 : t256 = true
    · subst c5
      rw [if_pos rfl] at H
      replace H := Option.bind_eq_some_iff.mp H
      obtain ⟨t257, A60, H⟩ := H
      (try dsimp only at H)
      have A6 := Aside0.mk A60
      clear A60
      have H' := Aside0.mk H
      clear H
      have hcz7_0 : ∀ i, w3.cell? ⟨gb255, i, none⟩ = _ := blk_cell BK255.out
      have hcz7_1 : w3.cell? ⟨gb255, 1, none⟩ = some (.bool a0_1) := (blk_cell BK255.out 1).trans rfl
      have hcz7_2 : w3.cell? ⟨gb255, 2, none⟩ = some (.int .i64 a0_2) := (blk_cell BK255.out 2).trans rfl
      have hcz7_3 : w3.cell? ⟨gb255, 3, none⟩ = some (.int .i64 a0_3) := (blk_cell BK255.out 3).trans rfl
      have hcz7_4 : w3.cell? ⟨gb255, 4, none⟩ = some (.slice A0_4 l0_4.length c0_4) := (blk_cell BK255.out 4).trans rfl
      have hcz7_5 : w3.cell? ⟨gb255, 5, none⟩ = some (.slice A0_5 l0_5.length c0_5) := (blk_cell BK255.out 5).trans rfl
      have hcz7_6 : w3.cell? ⟨gb255, 6, none⟩ = some (.int .i64 a0_6) := (blk_cell BK255.out 6).trans rfl
      have hcz7_7 : w3.cell? ⟨gb255, 7, none⟩ = some (.bool a0_7) := (blk_cell BK255.out 7).trans rfl
      have hcz7_8 : w3.cell? ⟨gb255, 8, none⟩ = some (.bool a0_8) := (blk_cell BK255.out 8).trans rfl
      have hcz7_9 : w3.cell? ⟨gb255, 9, none⟩ = some (.bool a0_9) := (blk_cell BK255.out 9).trans rfl
      have hcz7_10 : w3.cell? ⟨gb255, 10, none⟩ = some (.int .i64 a0_10) := (blk_cell BK255.out 10).trans rfl
      have hcz7_11 : w3.cell? ⟨gb255, 11, none⟩ = some (.int .i64 a0_11) := (blk_cell BK255.out 11).trans rfl
      have hcz7_12 : w3.cell? ⟨gb255, 12, none⟩ = some (.int .i64 a0_12) := (blk_cell BK255.out 12).trans rfl
      have hfz7_0 := blk_frozen BK255.out
      have hfz7_1 := blk_frozen BK255.out 1
      have hfz7_2 := blk_frozen BK255.out 2
      have hfz7_3 := blk_frozen BK255.out 3
      have hfz7_4 := blk_frozen BK255.out 4
      have hfz7_5 := blk_frozen BK255.out 5
      have hfz7_6 := blk_frozen BK255.out 6
      have hfz7_7 := blk_frozen BK255.out 7
      have hfz7_8 := blk_frozen BK255.out 8
      have hfz7_9 := blk_frozen BK255.out 9
      have hfz7_10 := blk_frozen BK255.out 10
      have hfz7_11 := blk_frozen BK255.out 11
      have hfz7_12 := blk_frozen BK255.out 12
      go_wp2_with (first | ((with_reducible refine gate_load (t := 33) rfl ?_); refine load_all (g := gb255) (ty := 33) rfl rfl rfl (bx BK255.out) (by kernel_rfl) (by kernel_rfl) ?_; simp only [Act.put, List.setIfInBounds_toArray, List.set_cons_zero, List.set_cons_succ]) | ((with_reducible refine gate_callee (f := 31) rfl ?_); refine goesL_ (some 5) rfl rfl Try.func31 (by kernel_rfl) rfl #[.int .i64 a0_11, .int .i64 0, .int .i64 1000000000] rfl (by (try simp only [List.map_toArray, List.map_cons, List.map_nil]); first | done | rfl | (simp only [List.length_drop, List.length_take]; rfl)) ?_; (with_reducible refine (impl_within.calls a0_11 0 1000000000 true _ A4.out).mono ?_); rintro e w' ⟨rfl, ⟨nd, rfl⟩⟩; refine ⟨_, rfl, ?_⟩) | (go_at_call 31; (with_reducible refine (impl_within.calls a0_12 0 1000000000 t257 _ A6.out).mono ?_); rintro e w' ⟨rfl, ⟨nd, rfl⟩⟩))
      go_meet
      case rel => exact ⟨_, (!t257), (by first | rfl | (simp; done) | (simp [*]; done)), H', ⟨by first | omega | exact Nat.le_refl _⟩, ⟨by (with_reducible repeat (first | refine blk_drewN ?_ _ | refine blk_drew ?_ | refine blk_alloc ?_ _)); exact BK255.out⟩, ⟨bl⟩⟩
    · replace c5 := Bool.eq_false_iff.mpr c5
      subst c5
      have H1 : (impl_AdmitOk.j0 k true a0_0 a0_1 a0_2 a0_3 l0_4 l0_5 a0_6 a0_7 a0_8 a0_9 a0_10 a0_11 a0_12) = some r := by rw [if_neg (show ¬ (false = true) by decide)] at H; exact H
      clear H
      have H := H1
      clear H1
      have H' := Aside0.mk H
      clear H
      have hcz8_0 : ∀ i, w3.cell? ⟨gb255, i, none⟩ = _ := blk_cell BK255.out
      have hcz8_1 : w3.cell? ⟨gb255, 1, none⟩ = some (.bool a0_1) := (blk_cell BK255.out 1).trans rfl
      have hcz8_2 : w3.cell? ⟨gb255, 2, none⟩ = some (.int .i64 a0_2) := (blk_cell BK255.out 2).trans rfl
      have hcz8_3 : w3.cell? ⟨gb255, 3, none⟩ = some (.int .i64 a0_3) := (blk_cell BK255.out 3).trans rfl
      have hcz8_4 : w3.cell? ⟨gb255, 4, none⟩ = some (.slice A0_4 l0_4.length c0_4) := (blk_cell BK255.out 4).trans rfl
      have hcz8_5 : w3.cell? ⟨gb255, 5, none⟩ = some (.slice A0_5 l0_5.length c0_5) := (blk_cell BK255.out 5).trans rfl
      have hcz8_6 : w3.cell? ⟨gb255, 6, none⟩ = some (.int .i64 a0_6) := (blk_cell BK255.out 6).trans rfl
      have hcz8_7 : w3.cell? ⟨gb255, 7, none⟩ = some (.bool a0_7) := (blk_cell BK255.out 7).trans rfl
      have hcz8_8 : w3.cell? ⟨gb255, 8, none⟩ = some (.bool a0_8) := (blk_cell BK255.out 8).trans rfl
      have hcz8_9 : w3.cell? ⟨gb255, 9, none⟩ = some (.bool a0_9) := (blk_cell BK255.out 9).trans rfl
      have hcz8_10 : w3.cell? ⟨gb255, 10, none⟩ = some (.int .i64 a0_10) := (blk_cell BK255.out 10).trans rfl
      have hcz8_11 : w3.cell? ⟨gb255, 11, none⟩ = some (.int .i64 a0_11) := (blk_cell BK255.out 11).trans rfl
      have hcz8_12 : w3.cell? ⟨gb255, 12, none⟩ = some (.int .i64 a0_12) := (blk_cell BK255.out 12).trans rfl
      have hfz8_0 := blk_frozen BK255.out
      have hfz8_1 := blk_frozen BK255.out 1
      have hfz8_2 := blk_frozen BK255.out 2
      have hfz8_3 := blk_frozen BK255.out 3
      have hfz8_4 := blk_frozen BK255.out 4
      have hfz8_5 := blk_frozen BK255.out 5
      have hfz8_6 := blk_frozen BK255.out 6
      have hfz8_7 := blk_frozen BK255.out 7
      have hfz8_8 := blk_frozen BK255.out 8
      have hfz8_9 := blk_frozen BK255.out 9
      have hfz8_10 := blk_frozen BK255.out 10
      have hfz8_11 := blk_frozen BK255.out 11
      have hfz8_12 := blk_frozen BK255.out 12
      go_wp2_with (first | ((with_reducible refine gate_load (t := 33) rfl ?_); refine load_all (g := gb255) (ty := 33) rfl rfl rfl (bx BK255.out) (by kernel_rfl) (by kernel_rfl) ?_; simp only [Act.put, List.setIfInBounds_toArray, List.set_cons_zero, List.set_cons_succ]) | ((with_reducible refine gate_callee (f := 31) rfl ?_); refine goesL_ (some 5) rfl rfl Try.func31 (by kernel_rfl) rfl #[.int .i64 a0_11, .int .i64 0, .int .i64 1000000000] rfl (by (try simp only [List.map_toArray, List.map_cons, List.map_nil]); first | done | rfl | (simp only [List.length_drop, List.length_take]; rfl)) ?_; (with_reducible refine (impl_within.calls a0_11 0 1000000000 false _ A4.out).mono ?_); rintro e w' ⟨rfl, ⟨nd, rfl⟩⟩; refine ⟨_, rfl, ?_⟩))
      go_meet
      case rel => exact ⟨_, (true), (by first | rfl | (simp; done) | (simp [*]; done)), H', ⟨by first | omega | exact Nat.le_refl _⟩, ⟨by (with_reducible repeat (first | refine blk_drewN ?_ _ | refine blk_drew ?_ | refine blk_alloc ?_ _)); exact BK255.out⟩, ⟨bl⟩⟩
  case rest =>
    clear HC2
    (try clear c1); (try clear p2); (try clear c3); (try clear c5); (try clear hcz7_0); (try clear hcz7_1); (try clear hcz7_10); (try clear hcz7_11); (try clear hcz7_12); (try clear hcz7_2); (try clear hcz7_3); (try clear hcz7_4); (try clear hcz7_5); (try clear hcz7_6); (try clear hcz7_7); (try clear hcz7_8); (try clear hcz7_9); (try clear hcz8_0); (try clear hcz8_1); (try clear hcz8_10); (try clear hcz8_11); (try clear hcz8_12); (try clear hcz8_2); (try clear hcz8_3); (try clear hcz8_4); (try clear hcz8_5); (try clear hcz8_6); (try clear hcz8_7); (try clear hcz8_8); (try clear hcz8_9); (try clear hfz7_0); (try clear hfz7_1); (try clear hfz7_10); (try clear hfz7_11); (try clear hfz7_12); (try clear hfz7_2); (try clear hfz7_3); (try clear hfz7_4); (try clear hfz7_5); (try clear hfz7_6); (try clear hfz7_7); (try clear hfz7_8); (try clear hfz7_9); (try clear hfz8_0); (try clear hfz8_1); (try clear hfz8_10); (try clear hfz8_11); (try clear hfz8_12); (try clear hfz8_2); (try clear hfz8_3); (try clear hfz8_4); (try clear hfz8_5); (try clear hfz8_6); (try clear hfz8_7); (try clear hfz8_8); (try clear hfz8_9)
    obtain ⟨kq, x12_1, rfl, HA, HJ1, BK255, HB⟩ := hcut
    cases kq with
    | zero => exact absurd HA.out (by simp [impl_AdmitOk.j0])
    | succ kj1 =>
      have H := HA.out
      clear HA
      simp only [impl_AdmitOk.j0] at H
      by_cases c9 : x12_1 = true
      · subst c9
        rw [if_pos rfl] at H
        obtain rfl := Option.some.inj H
        go_wp2
        go_ret
        exact ⟨rr, bl⟩
      · replace c9 := Bool.eq_false_iff.mpr c9
        subst c9
        have H1 : (if a0_0 = true then ((impl_TilesOf.f kj1 a0_2 a0_3 l0_4 l0_5).bind fun t258 => (if t258 = 1 then ((impl_ParOk.f a0_6 a0_7 a0_8 a0_9).bind fun t259 => (if t259 = true then (if 0 ≤ a0_3 then ((impl_within.f a0_10 0 (wrap64 ((shl .i64 1 a0_3) - 1))).bind fun t260 => (some t260)) else (none)) else (some false))) else (some false))) else (if a0_1 = true then (some false) else ((impl_isNoSeq.f a0_2 a0_3 l0_4 l0_5).bind fun t261 => (if t261 = true then (if (a0_6 == 0 && (!a0_7 && (!a0_8 && (!a0_9)))) = true then (some (a0_10 == 0)) else (some false)) else (some false))))) = some r := by rw [if_neg (show ¬ (false = true) by decide)] at H; exact H
        clear H
        have H := H1
        clear H1
        by_cases c10 : a0_0 = true
        · subst c10
          rw [if_pos rfl] at H
          replace H := Option.bind_eq_some_iff.mp H
          obtain ⟨t258, A110, H⟩ := H
          (try dsimp only at H)
          have A11 := Aside0.mk A110
          clear A110
          by_cases c12 : t258 = 1
          · rw [if_pos c12] at H
            have c12b0 : (t258 == 1) = true := beq_iff_eq.mpr c12
            have c12b1 : (t258 != 1) = false := bne_eq_false_iff_eq.mpr c12
            clear c12
            replace H := Option.bind_eq_some_iff.mp H
            obtain ⟨t259, A130, H⟩ := H
            (try dsimp only at H)
            have A13 := Aside0.mk A130
            clear A130
            by_cases c14 : t259 = true
            · subst c14
              rw [if_pos rfl] at H
              by_cases c15 : 0 ≤ a0_3
              · rw [if_pos c15] at H
                have c15b0 := eq_true c15
                have c15b1 : decide (0 ≤ a0_3) = true := decide_eq_true c15
                clear c15
                obtain ⟨ji16, hji16⟩ : ∃ j_ : Int, (shl .i64 1 a0_3) = j_ := ⟨_, rfl⟩
                replace H : ((impl_within.f a0_10 0 (wrap64 ((ji16) - 1))).bind fun t260 => (some t260)) = some r := by first | (rw [hji16] at H; exact H) | (simp only [hji16] at H ⊢; exact H)
                (try rw [hji16] at A11)
                (try rw [hji16] at A13)
                have hji16_ : (IntKind.i64.wrap (1 * 2 ^ min a0_3.toNat 64)) = ji16 := hji16
                have hji16z : a0_3 ≤ 64 → (IntKind.i64.wrap (1 * 2 ^ a0_3.toNat)) = ji16 := shl_small hji16
                have hji16u : (IntKind.i64.wrap (2 ^ min a0_3.toNat 64)) = ji16 := by have h_ := hji16_; rw [Int.one_mul] at h_; exact h_
                have hji16v : a0_3 ≤ 64 → (IntKind.i64.wrap (2 ^ a0_3.toNat)) = ji16 := fun hle_ => by have h_ := hji16z hle_; rw [Int.one_mul] at h_; exact h_
                have hji16y : (wrap64 (1 * 2 ^ min a0_3.toNat 64)) = ji16 := (i64_w _).symm.trans hji16_
                have hji16x : a0_3 ≤ 64 → (wrap64 (1 * 2 ^ a0_3.toNat)) = ji16 := fun h_ => (i64_w _).symm.trans (hji16z h_)
                replace H := Option.bind_eq_some_iff.mp H
                obtain ⟨t260, A170, H⟩ := H
                (try dsimp only at H)
                have A17 := Aside0.mk A170
                clear A170
                obtain rfl := Option.some.inj H
                have hcz18_0 : ∀ i, wc.cell? ⟨gb255, i, none⟩ = _ := blk_cell BK255.out
                have hcz18_1 : wc.cell? ⟨gb255, 1, none⟩ = some (.bool a0_1) := (blk_cell BK255.out 1).trans rfl
                have hcz18_2 : wc.cell? ⟨gb255, 2, none⟩ = some (.int .i64 a0_2) := (blk_cell BK255.out 2).trans rfl
                have hcz18_3 : wc.cell? ⟨gb255, 3, none⟩ = some (.int .i64 a0_3) := (blk_cell BK255.out 3).trans rfl
                have hcz18_4 : wc.cell? ⟨gb255, 4, none⟩ = some (.slice A0_4 l0_4.length c0_4) := (blk_cell BK255.out 4).trans rfl
                have hcz18_5 : wc.cell? ⟨gb255, 5, none⟩ = some (.slice A0_5 l0_5.length c0_5) := (blk_cell BK255.out 5).trans rfl
                have hcz18_6 : wc.cell? ⟨gb255, 6, none⟩ = some (.int .i64 a0_6) := (blk_cell BK255.out 6).trans rfl
                have hcz18_7 : wc.cell? ⟨gb255, 7, none⟩ = some (.bool a0_7) := (blk_cell BK255.out 7).trans rfl
                have hcz18_8 : wc.cell? ⟨gb255, 8, none⟩ = some (.bool a0_8) := (blk_cell BK255.out 8).trans rfl
                have hcz18_9 : wc.cell? ⟨gb255, 9, none⟩ = some (.bool a0_9) := (blk_cell BK255.out 9).trans rfl
                have hcz18_10 : wc.cell? ⟨gb255, 10, none⟩ = some (.int .i64 a0_10) := (blk_cell BK255.out 10).trans rfl
                have hcz18_11 : wc.cell? ⟨gb255, 11, none⟩ = some (.int .i64 a0_11) := (blk_cell BK255.out 11).trans rfl
                have hcz18_12 : wc.cell? ⟨gb255, 12, none⟩ = some (.int .i64 a0_12) := (blk_cell BK255.out 12).trans rfl
                have hfz18_0 := blk_frozen BK255.out
                have hfz18_1 := blk_frozen BK255.out 1
                have hfz18_2 := blk_frozen BK255.out 2
                have hfz18_3 := blk_frozen BK255.out 3
                have hfz18_4 := blk_frozen BK255.out 4
                have hfz18_5 := blk_frozen BK255.out 5
                have hfz18_6 := blk_frozen BK255.out 6
                have hfz18_7 := blk_frozen BK255.out 7
                have hfz18_8 := blk_frozen BK255.out 8
                have hfz18_9 := blk_frozen BK255.out 9
                have hfz18_10 := blk_frozen BK255.out 10
                have hfz18_11 := blk_frozen BK255.out 11
                have hfz18_12 := blk_frozen BK255.out 12
                try go_wp2
                have n0_ := Aside0.mk (blk_drew BK255.out)
                have n1_ := Aside0.mk (below_drew1 HB.out)
                clear BK255
                clear HB
                have BK255 := n0_
                have HB := n1_
                clear n0_ n1_
                refine start_ (n := 20) (S := fun w' => w'.heap[gb255]? = some (.cells #[.bool true, .bool a0_1, .int .i64 a0_2, .int .i64 a0_3, .slice A0_4 l0_4.length c0_4, .slice A0_5 l0_5.length c0_5, .int .i64 a0_6, .bool a0_7, .bool a0_8, .bool a0_9, .int .i64 a0_10, .int .i64 a0_11, .int .i64 a0_12] 33 (0, 0))) (ds := []) (tf 0 20) (by kernel_rfl) rfl rfl BK255.out (fun hHeld => ?_); refine with_tabW impl_AdmitOk.tab5 impl_AdmitOk.bits5 (fun HT_ HW_ => ?_)
                generalize wc.drew = w19 at BK255 HB hHeld ⊢
                refine pure_ (i := 0) (N := some 35) (v := ?_) (a' := ?_) (tf 1 19) rfl rfl (any_of HT_.out (by kernel_rfl)) (fun _ _ _ h => h) (Or.inl ⟨by rfl, ?_⟩) ?_ ?_
                rotate_left
                · intro w'
                  go_simp
                  with_reducible rfl
                rotate_left; (· (simp only [Act.put, List.setIfInBounds_toArray, List.set_cons_zero, List.set_cons_succ, i64_w, i32_w]; rfl))
                refine take_ (i := 1) (N := some 36) (v := ?_) (a' := ?_) (tf 2 18) rfl rfl (take_ofW HT_.out HW_.out (by kernel_rfl)) (fun _ _ _ h => h) (Or.inl ⟨by rfl, ?_⟩) hHeld ?_ ?_
                rotate_left
                · intro w' z255_
                  have hcz255_ : ∀ i, w'.cell? ⟨gb255, i, none⟩ = _ := blk_cell z255_
                  have hfz255_ := blk_frozen z255_
                  first | (refine Eq.trans (load_here (g := gb255) (ty := 33) rfl rfl z255_ (by kernel_rfl) (by kernel_rfl)) ?_; with_reducible rfl) | (go_simp; with_reducible rfl)
                rotate_left; (· (simp only [Act.put, List.setIfInBounds_toArray, List.set_cons_zero, List.set_cons_succ, i64_w, i32_w]; rfl))
                refine one_ (i := 2) (N := some 37) (tf 3 17) rfl rfl (one_of HT_.out (by kernel_rfl)) (by decide) (fun K hK => ?_)
                refine goes_ Try.func33 (by kernel_rfl) rfl #[.agg #[.int .i64 a0_2, .int .i64 a0_3, .slice A0_4 l0_4.length c0_4, .slice A0_5 l0_5.length c0_5]] (by rfl) rfl rfl (by (try simp only [List.map_toArray, List.map_cons, List.map_nil]); first | done | rfl | (simp only [List.length_drop, List.length_take]; rfl)) ?_
                with_reducible refine (impl_TilesOf.calls kj1 a0_2 a0_3 _ _ l0_4 _ _ l0_5 t258 _ ?side1 ?side2 ?side3 ?side4 A11.out).mono ?_
                (case side1 => repeat (first | exact (Kd.C_below HR0_4.out HB.out) | (with_reducible refine Kd.C_alloc ?_ _) | (with_reducible refine Kd.C_drewN ?_ _) | (with_reducible refine Kd.C_drew ?_)))
                (case side2 => exact HC0_4.out)
                (case side3 => repeat (first | exact (Kd.C_below HR0_5.out HB.out) | (with_reducible refine Kd.C_alloc ?_ _) | (with_reducible refine Kd.C_drewN ?_ _) | (with_reducible refine Kd.C_drew ?_)))
                (case side4 => exact HC0_5.out)
                rintro e w20 ⟨rfl, hb⟩
                refine ⟨_, rfl, ?_⟩
                have n0_ := Aside0.mk (blk_below (bx BK255.out) hb)
                have n1_ := bs HB hb
                clear BK255
                clear HB
                have BK255 := n0_
                have HB := n1_
                clear n0_ n1_
                (try clear hb)
                (try clear hb2)
                (try clear hk)
                (try clear hi)
                refine hK.out _ _ BK255.out (fun hHeld => ?_)
                clear hK K
                refine norm_ (a' := ?_) ?_ ?_
                rotate_left
                · show Act.put _ (some 37) _ = _
                  simp only [Act.put, List.setIfInBounds_toArray, List.set_cons_zero, List.set_cons_succ, i64_w, i32_w]
                  rfl
                refine pure_ (i := 3) (N := some 38) (v := ?_) (a' := ?_) (tf 4 16) rfl rfl (any_of HT_.out (by kernel_rfl)) (fun _ _ _ h => h) (Or.inl ⟨by rfl, ?_⟩) ?_ ?_
                rotate_left
                · intro w'
                  go_simp
                  with_reducible rfl
                rotate_left; (· (simp only [Act.put, List.setIfInBounds_toArray, List.set_cons_zero, List.set_cons_succ, i64_w, i32_w]; rfl))
                refine pure_ (i := 4) (N := some 39) (v := ?_) (a' := ?_) (tf 5 15) rfl rfl (any_of HT_.out (by kernel_rfl)) (fun _ _ _ h => h) (Or.inl ⟨by rfl, ?_⟩) ?_ ?_
                rotate_left
                · intro w'
                  go_simp
                  with_reducible rfl
                rotate_left; (· (simp only [Act.put, List.setIfInBounds_toArray, List.set_cons_zero, List.set_cons_succ, i64_w, i32_w]; rfl))
                refine pure_ (i := 5) (N := some 40) (v := ?_) (a' := ?_) (tf 6 14) rfl rfl (any_of HT_.out (by kernel_rfl)) (fun _ _ _ h => h) (Or.inl ⟨by rfl, ?_⟩) ?_ ?_
                rotate_left
                · intro w'
                  go_simp
                  with_reducible rfl
                rotate_left; (· (simp only [Act.put, List.setIfInBounds_toArray, List.set_cons_zero, List.set_cons_succ, i64_w, i32_w]; rfl))
                refine take_ (i := 6) (N := some 41) (v := ?_) (a' := ?_) (tf 7 13) rfl rfl (take_ofW HT_.out HW_.out (by kernel_rfl)) (fun _ _ _ h => h) (Or.inl ⟨by rfl, ?_⟩) hHeld ?_ ?_
                rotate_left
                · intro w' z255_
                  have hcz255_ : ∀ i, w'.cell? ⟨gb255, i, none⟩ = _ := blk_cell z255_
                  have hfz255_ := blk_frozen z255_
                  first | (refine Eq.trans (load_here (g := gb255) (ty := 33) rfl rfl z255_ (by kernel_rfl) (by kernel_rfl)) ?_; with_reducible rfl) | (go_simp; with_reducible rfl)
                rotate_left; (· (simp only [Act.put, List.setIfInBounds_toArray, List.set_cons_zero, List.set_cons_succ, i64_w, i32_w]; rfl))
                refine one_ (i := 7) (N := some 42) (tf 8 12) rfl rfl (one_of HT_.out (by kernel_rfl)) (by decide) (fun K hK => ?_)
                refine goes_ Try.func34 (by kernel_rfl) rfl #[.agg #[.int .i64 a0_6, .bool a0_7, .bool a0_8, .bool a0_9]] (by rfl) rfl rfl (by (try simp only [List.map_toArray, List.map_cons, List.map_nil]); first | done | rfl | (simp only [List.length_drop, List.length_take]; rfl)) ?_
                with_reducible refine (impl_ParOk.calls a0_6 a0_7 a0_8 a0_9 true _ A13.out).mono ?_
                rintro e w21 ⟨rfl, hb⟩
                refine ⟨_, rfl, ?_⟩
                have n0_ := Aside0.mk (blk_below (bx BK255.out) hb)
                have n1_ := bs HB hb
                clear BK255
                clear HB
                have BK255 := n0_
                have HB := n1_
                clear n0_ n1_
                (try clear hb)
                (try clear hb2)
                (try clear hk)
                (try clear hi)
                refine hK.out _ _ BK255.out (fun hHeld => ?_)
                clear hK K
                refine norm_ (a' := ?_) ?_ ?_
                rotate_left
                · show Act.put _ (some 42) _ = _
                  simp only [Act.put, List.setIfInBounds_toArray, List.set_cons_zero, List.set_cons_succ, i64_w, i32_w]
                  rfl
                refine pure_ (i := 8) (N := some 43) (v := ?_) (a' := ?_) (tf 9 11) rfl rfl (any_of HT_.out (by kernel_rfl)) (fun _ _ _ h => h) (Or.inl ⟨by rfl, ?_⟩) ?_ ?_
                rotate_left
                · intro w'
                  go_simp
                  with_reducible rfl
                rotate_left; (· (simp only [Act.put, List.setIfInBounds_toArray, List.set_cons_zero, List.set_cons_succ, i64_w, i32_w]; rfl))
                refine pure_ (i := 9) (N := some 44) (v := ?_) (a' := ?_) (tf 10 10) rfl rfl (any_of HT_.out (by kernel_rfl)) (fun _ _ _ h => h) (Or.inl ⟨by rfl, ?_⟩) ?_ ?_
                rotate_left
                · intro w'
                  go_simp
                  with_reducible rfl
                rotate_left; (· (simp only [Act.put, List.setIfInBounds_toArray, List.set_cons_zero, List.set_cons_succ, i64_w, i32_w]; rfl))
                refine pure_ (i := 10) (N := some 45) (v := ?_) (a' := ?_) (tf 11 9) rfl rfl (any_of HT_.out (by kernel_rfl)) (fun _ _ _ h => h) (Or.inl ⟨by rfl, ?_⟩) ?_ ?_
                rotate_left
                · intro w'
                  go_simp
                  with_reducible rfl
                rotate_left; (· (simp only [Act.put, List.setIfInBounds_toArray, List.set_cons_zero, List.set_cons_succ, i64_w, i32_w]; rfl))
                refine pure_ (i := 12) (N := some 47) (v := ?_) (a' := ?_) #[true, true, true, true, true, true, true, true, true, true, true, false, true, false, false, false, false, false, false, false] rfl rfl (any_of HT_.out (by kernel_rfl)) (fun _ _ _ h => h) (Or.inl ⟨by rfl, ?_⟩) ?_ ?_
                rotate_left
                · intro w'
                  go_simp
                  with_reducible rfl
                rotate_left; (· (simp only [Act.put, List.setIfInBounds_toArray, List.set_cons_zero, List.set_cons_succ, i64_w, i32_w]; rfl))
                refine pure_ (i := 13) (N := some 48) (v := ?_) (a' := ?_) #[true, true, true, true, true, true, true, true, true, true, true, false, true, true, false, false, false, false, false, false] rfl rfl (any_of HT_.out (by kernel_rfl)) (fun _ _ _ h => h) (Or.inl ⟨by rfl, ?_⟩) ?_ ?_
                rotate_left
                · intro w'
                  go_simp
                  with_reducible rfl
                rotate_left; (· (simp only [Act.put, List.setIfInBounds_toArray, List.set_cons_zero, List.set_cons_succ, i64_w, i32_w]; rfl))
                refine take_ (i := 11) (N := some 46) (v := ?_) (a' := ?_) (tf 14 6) rfl rfl (take_ofW HT_.out HW_.out (by kernel_rfl)) (fun _ _ _ h => h) (Or.inl ⟨by rfl, ?_⟩) hHeld ?_ ?_
                rotate_left
                · intro w' z255_
                  have hcz255_ : ∀ i, w'.cell? ⟨gb255, i, none⟩ = _ := blk_cell z255_
                  have hfz255_ := blk_frozen z255_
                  first | (refine Eq.trans (load_here (g := gb255) (ty := 33) rfl rfl z255_ (by kernel_rfl) (by kernel_rfl)) ?_; with_reducible rfl) | (go_simp; with_reducible rfl)
                rotate_left; (· (simp only [Act.put, List.setIfInBounds_toArray, List.set_cons_zero, List.set_cons_succ, i64_w, i32_w]; rfl))
                refine take_ (i := 14) (N := some 49) (v := ?_) (a' := ?_) (tf 15 5) rfl rfl (take_ofW HT_.out HW_.out (by kernel_rfl)) (fun _ _ _ h => h) (Or.inl ⟨by rfl, ?_⟩) hHeld ?_ ?_
                rotate_left
                · intro w' z255_
                  have hcz255_ : ∀ i, w'.cell? ⟨gb255, i, none⟩ = _ := blk_cell z255_
                  have hfz255_ := blk_frozen z255_
                  first | (refine Eq.trans (load_here (g := gb255) (ty := 33) rfl rfl z255_ (by kernel_rfl) (by kernel_rfl)) ?_; with_reducible rfl) | (go_simp; with_reducible rfl)
                rotate_left; (· (simp only [Act.put, List.setIfInBounds_toArray, List.set_cons_zero, List.set_cons_succ, i64_w, i32_w]; rfl))
                refine pure_ (i := 15) (N := some 50) (v := ?_) (a' := ?_) (tf 16 4) rfl rfl (any_of HT_.out (by kernel_rfl)) (fun _ _ _ h => h) (Or.inl ⟨by rfl, ?_⟩) ?_ ?_
                rotate_left
                · intro w'
                  go_simp
                  with_reducible rfl
                rotate_left; (· (simp only [Act.put, List.setIfInBounds_toArray, List.set_cons_zero, List.set_cons_succ, i64_w, i32_w]; rfl))
                refine pure_ (i := 16) (N := some 51) (v := ?_) (a' := ?_) (tf 17 3) rfl rfl (any_of HT_.out (by kernel_rfl)) (fun _ _ _ h => h) (Or.inl ⟨by rfl, ?_⟩) ?_ ?_
                rotate_left
                · intro w'
                  go_simp
                  with_reducible rfl
                rotate_left; (· (simp only [Act.put, List.setIfInBounds_toArray, List.set_cons_zero, List.set_cons_succ, i64_w, i32_w]; rfl))
                refine one_ (i := 17) (N := some 52) (tf 18 2) rfl rfl (one_of HT_.out (by kernel_rfl)) (by decide) (fun K hK => ?_)
                refine goes_ Try.func31 (by kernel_rfl) rfl #[.int .i64 a0_10, .int .i64 0, .int .i64 (wrap64 ((ji16) - 1))] (by rfl) rfl rfl (by (try simp only [List.map_toArray, List.map_cons, List.map_nil]); first | done | (simp only [hji16]; rfl) | rfl | (simp only [List.length_drop, List.length_take]; rfl)) ?_
                with_reducible refine (impl_within.calls a0_10 0 (wrap64 ((ji16) - 1)) t260 _ A17.out).mono ?_
                rintro e w' ⟨rfl, ⟨nd, rfl⟩⟩
                refine ⟨_, rfl, ?_⟩
                refine hK.out _ _ BK255.out (fun hHeld => ?_)
                clear hK K
                refine norm_ (a' := ?_) ?_ ?_
                rotate_left
                · show Act.put _ (some 52) _ = _
                  simp only [Act.put, List.setIfInBounds_toArray, List.set_cons_zero, List.set_cons_succ, i64_w, i32_w]
                  rfl
                refine pure_ (i := 18) (N := some 53) (v := ?_) (a' := ?_) (tf 19 1) rfl rfl (any_of HT_.out (by kernel_rfl)) (fun _ _ _ h => h) (Or.inl ⟨by rfl, ?_⟩) ?_ ?_
                rotate_left
                · intro w'
                  go_simp
                  with_reducible rfl
                rotate_left; (· (simp only [Act.put, List.setIfInBounds_toArray, List.set_cons_zero, List.set_cons_succ, i64_w, i32_w]; rfl))
                refine pure_ (i := 19) (N := some 2) (v := ?_) (a' := ?_) (tf 20 0) rfl rfl (any_of HT_.out (by kernel_rfl)) (fun _ _ _ h => h) (Or.inl ⟨by rfl, ?_⟩) ?_ ?_
                rotate_left
                · intro w'
                  go_simp
                  with_reducible rfl
                rotate_left; (· (simp only [Act.put, List.setIfInBounds_toArray, List.set_cons_zero, List.set_cons_succ, i64_w, i32_w]; rfl))
                refine done_ (done_of HT_.out (by kernel_rfl)) ?_
                try go_wp2
                go_ret
                exact ⟨by first | rfl | (simp [errW_none, errW_some] <;> rfl) | (simp only [← hji16]; first | rfl | (simp [errW_none, errW_some] <;> rfl)) | (simp [*, errW_none, errW_some] <;> rfl), bl⟩
              · rw [if_neg c15] at H
                exact absurd H (by simp)
            · replace c14 := Bool.eq_false_iff.mpr c14
              subst c14
              have H1 : (some false) = some r := by rw [if_neg (show ¬ (false = true) by decide)] at H; exact H
              clear H
              have H := H1
              clear H1
              obtain rfl := Option.some.inj H
              have hcz22_0 : ∀ i, wc.cell? ⟨gb255, i, none⟩ = _ := blk_cell BK255.out
              have hcz22_1 : wc.cell? ⟨gb255, 1, none⟩ = some (.bool a0_1) := (blk_cell BK255.out 1).trans rfl
              have hcz22_2 : wc.cell? ⟨gb255, 2, none⟩ = some (.int .i64 a0_2) := (blk_cell BK255.out 2).trans rfl
              have hcz22_3 : wc.cell? ⟨gb255, 3, none⟩ = some (.int .i64 a0_3) := (blk_cell BK255.out 3).trans rfl
              have hcz22_4 : wc.cell? ⟨gb255, 4, none⟩ = some (.slice A0_4 l0_4.length c0_4) := (blk_cell BK255.out 4).trans rfl
              have hcz22_5 : wc.cell? ⟨gb255, 5, none⟩ = some (.slice A0_5 l0_5.length c0_5) := (blk_cell BK255.out 5).trans rfl
              have hcz22_6 : wc.cell? ⟨gb255, 6, none⟩ = some (.int .i64 a0_6) := (blk_cell BK255.out 6).trans rfl
              have hcz22_7 : wc.cell? ⟨gb255, 7, none⟩ = some (.bool a0_7) := (blk_cell BK255.out 7).trans rfl
              have hcz22_8 : wc.cell? ⟨gb255, 8, none⟩ = some (.bool a0_8) := (blk_cell BK255.out 8).trans rfl
              have hcz22_9 : wc.cell? ⟨gb255, 9, none⟩ = some (.bool a0_9) := (blk_cell BK255.out 9).trans rfl
              have hcz22_10 : wc.cell? ⟨gb255, 10, none⟩ = some (.int .i64 a0_10) := (blk_cell BK255.out 10).trans rfl
              have hcz22_11 : wc.cell? ⟨gb255, 11, none⟩ = some (.int .i64 a0_11) := (blk_cell BK255.out 11).trans rfl
              have hcz22_12 : wc.cell? ⟨gb255, 12, none⟩ = some (.int .i64 a0_12) := (blk_cell BK255.out 12).trans rfl
              have hfz22_0 := blk_frozen BK255.out
              have hfz22_1 := blk_frozen BK255.out 1
              have hfz22_2 := blk_frozen BK255.out 2
              have hfz22_3 := blk_frozen BK255.out 3
              have hfz22_4 := blk_frozen BK255.out 4
              have hfz22_5 := blk_frozen BK255.out 5
              have hfz22_6 := blk_frozen BK255.out 6
              have hfz22_7 := blk_frozen BK255.out 7
              have hfz22_8 := blk_frozen BK255.out 8
              have hfz22_9 := blk_frozen BK255.out 9
              have hfz22_10 := blk_frozen BK255.out 10
              have hfz22_11 := blk_frozen BK255.out 11
              have hfz22_12 := blk_frozen BK255.out 12
              try go_wp2
              have n0_ := Aside0.mk (blk_drew BK255.out)
              have n1_ := Aside0.mk (below_drew1 HB.out)
              clear BK255
              clear HB
              have BK255 := n0_
              have HB := n1_
              clear n0_ n1_
              refine start_ (n := 20) (S := fun w' => w'.heap[gb255]? = some (.cells #[.bool true, .bool a0_1, .int .i64 a0_2, .int .i64 a0_3, .slice A0_4 l0_4.length c0_4, .slice A0_5 l0_5.length c0_5, .int .i64 a0_6, .bool a0_7, .bool a0_8, .bool a0_9, .int .i64 a0_10, .int .i64 a0_11, .int .i64 a0_12] 33 (0, 0))) (ds := []) (tf 0 20) (by kernel_rfl) rfl rfl BK255.out (fun hHeld => ?_); refine with_tabW impl_AdmitOk.tab5 impl_AdmitOk.bits5 (fun HT_ HW_ => ?_)
              generalize wc.drew = w23 at BK255 HB hHeld ⊢
              refine pure_ (i := 0) (N := some 35) (v := ?_) (a' := ?_) (tf 1 19) rfl rfl (any_of HT_.out (by kernel_rfl)) (fun _ _ _ h => h) (Or.inl ⟨by rfl, ?_⟩) ?_ ?_
              rotate_left
              · intro w'
                go_simp
                with_reducible rfl
              rotate_left; (· (simp only [Act.put, List.setIfInBounds_toArray, List.set_cons_zero, List.set_cons_succ, i64_w, i32_w]; rfl))
              refine take_ (i := 1) (N := some 36) (v := ?_) (a' := ?_) (tf 2 18) rfl rfl (take_ofW HT_.out HW_.out (by kernel_rfl)) (fun _ _ _ h => h) (Or.inl ⟨by rfl, ?_⟩) hHeld ?_ ?_
              rotate_left
              · intro w' z255_
                have hcz255_ : ∀ i, w'.cell? ⟨gb255, i, none⟩ = _ := blk_cell z255_
                have hfz255_ := blk_frozen z255_
                first | (refine Eq.trans (load_here (g := gb255) (ty := 33) rfl rfl z255_ (by kernel_rfl) (by kernel_rfl)) ?_; with_reducible rfl) | (go_simp; with_reducible rfl)
              rotate_left; (· (simp only [Act.put, List.setIfInBounds_toArray, List.set_cons_zero, List.set_cons_succ, i64_w, i32_w]; rfl))
              refine one_ (i := 2) (N := some 37) (tf 3 17) rfl rfl (one_of HT_.out (by kernel_rfl)) (by decide) (fun K hK => ?_)
              refine goes_ Try.func33 (by kernel_rfl) rfl #[.agg #[.int .i64 a0_2, .int .i64 a0_3, .slice A0_4 l0_4.length c0_4, .slice A0_5 l0_5.length c0_5]] (by rfl) rfl rfl (by (try simp only [List.map_toArray, List.map_cons, List.map_nil]); first | done | rfl | (simp only [List.length_drop, List.length_take]; rfl)) ?_
              with_reducible refine (impl_TilesOf.calls kj1 a0_2 a0_3 _ _ l0_4 _ _ l0_5 t258 _ ?side1 ?side2 ?side3 ?side4 A11.out).mono ?_
              (case side1 => repeat (first | exact (Kd.C_below HR0_4.out HB.out) | (with_reducible refine Kd.C_alloc ?_ _) | (with_reducible refine Kd.C_drewN ?_ _) | (with_reducible refine Kd.C_drew ?_)))
              (case side2 => exact HC0_4.out)
              (case side3 => repeat (first | exact (Kd.C_below HR0_5.out HB.out) | (with_reducible refine Kd.C_alloc ?_ _) | (with_reducible refine Kd.C_drewN ?_ _) | (with_reducible refine Kd.C_drew ?_)))
              (case side4 => exact HC0_5.out)
              rintro e w24 ⟨rfl, hb⟩
              refine ⟨_, rfl, ?_⟩
              have n0_ := Aside0.mk (blk_below (bx BK255.out) hb)
              have n1_ := bs HB hb
              clear BK255
              clear HB
              have BK255 := n0_
              have HB := n1_
              clear n0_ n1_
              (try clear hb)
              (try clear hb2)
              (try clear hk)
              (try clear hi)
              refine hK.out _ _ BK255.out (fun hHeld => ?_)
              clear hK K
              refine norm_ (a' := ?_) ?_ ?_
              rotate_left
              · show Act.put _ (some 37) _ = _
                simp only [Act.put, List.setIfInBounds_toArray, List.set_cons_zero, List.set_cons_succ, i64_w, i32_w]
                rfl
              refine pure_ (i := 3) (N := some 38) (v := ?_) (a' := ?_) (tf 4 16) rfl rfl (any_of HT_.out (by kernel_rfl)) (fun _ _ _ h => h) (Or.inl ⟨by rfl, ?_⟩) ?_ ?_
              rotate_left
              · intro w'
                go_simp
                with_reducible rfl
              rotate_left; (· (simp only [Act.put, List.setIfInBounds_toArray, List.set_cons_zero, List.set_cons_succ, i64_w, i32_w]; rfl))
              refine pure_ (i := 4) (N := some 39) (v := ?_) (a' := ?_) (tf 5 15) rfl rfl (any_of HT_.out (by kernel_rfl)) (fun _ _ _ h => h) (Or.inl ⟨by rfl, ?_⟩) ?_ ?_
              rotate_left
              · intro w'
                go_simp
                with_reducible rfl
              rotate_left; (· (simp only [Act.put, List.setIfInBounds_toArray, List.set_cons_zero, List.set_cons_succ, i64_w, i32_w]; rfl))
              refine pure_ (i := 5) (N := some 40) (v := ?_) (a' := ?_) (tf 6 14) rfl rfl (any_of HT_.out (by kernel_rfl)) (fun _ _ _ h => h) (Or.inl ⟨by rfl, ?_⟩) ?_ ?_
              rotate_left
              · intro w'
                go_simp
                with_reducible rfl
              rotate_left; (· (simp only [Act.put, List.setIfInBounds_toArray, List.set_cons_zero, List.set_cons_succ, i64_w, i32_w]; rfl))
              refine take_ (i := 6) (N := some 41) (v := ?_) (a' := ?_) (tf 7 13) rfl rfl (take_ofW HT_.out HW_.out (by kernel_rfl)) (fun _ _ _ h => h) (Or.inl ⟨by rfl, ?_⟩) hHeld ?_ ?_
              rotate_left
              · intro w' z255_
                have hcz255_ : ∀ i, w'.cell? ⟨gb255, i, none⟩ = _ := blk_cell z255_
                have hfz255_ := blk_frozen z255_
                first | (refine Eq.trans (load_here (g := gb255) (ty := 33) rfl rfl z255_ (by kernel_rfl) (by kernel_rfl)) ?_; with_reducible rfl) | (go_simp; with_reducible rfl)
              rotate_left; (· (simp only [Act.put, List.setIfInBounds_toArray, List.set_cons_zero, List.set_cons_succ, i64_w, i32_w]; rfl))
              refine one_ (i := 7) (N := some 42) (tf 8 12) rfl rfl (one_of HT_.out (by kernel_rfl)) (by decide) (fun K hK => ?_)
              refine goes_ Try.func34 (by kernel_rfl) rfl #[.agg #[.int .i64 a0_6, .bool a0_7, .bool a0_8, .bool a0_9]] (by rfl) rfl rfl (by (try simp only [List.map_toArray, List.map_cons, List.map_nil]); first | done | rfl | (simp only [List.length_drop, List.length_take]; rfl)) ?_
              with_reducible refine (impl_ParOk.calls a0_6 a0_7 a0_8 a0_9 false _ A13.out).mono ?_
              rintro e w25 ⟨rfl, hb⟩
              refine ⟨_, rfl, ?_⟩
              have n0_ := Aside0.mk (blk_below (bx BK255.out) hb)
              have n1_ := bs HB hb
              clear BK255
              clear HB
              have BK255 := n0_
              have HB := n1_
              clear n0_ n1_
              (try clear hb)
              (try clear hb2)
              (try clear hk)
              (try clear hi)
              refine hK.out _ _ BK255.out (fun hHeld => ?_)
              clear hK K
              refine norm_ (a' := ?_) ?_ ?_
              rotate_left
              · show Act.put _ (some 42) _ = _
                simp only [Act.put, List.setIfInBounds_toArray, List.set_cons_zero, List.set_cons_succ, i64_w, i32_w]
                rfl
              refine pure_ (i := 8) (N := some 43) (v := ?_) (a' := ?_) (tf 9 11) rfl rfl (any_of HT_.out (by kernel_rfl)) (fun _ _ _ h => h) (Or.inl ⟨by rfl, ?_⟩) ?_ ?_
              rotate_left
              · intro w'
                go_simp
                with_reducible rfl
              rotate_left; (· (simp only [Act.put, List.setIfInBounds_toArray, List.set_cons_zero, List.set_cons_succ, i64_w, i32_w]; rfl))
              refine pure_ (i := 9) (N := some 44) (v := ?_) (a' := ?_) (tf 10 10) rfl rfl (any_of HT_.out (by kernel_rfl)) (fun _ _ _ h => h) (Or.inl ⟨by rfl, ?_⟩) ?_ ?_
              rotate_left
              · intro w'
                go_simp
                with_reducible rfl
              rotate_left; (· (simp only [Act.put, List.setIfInBounds_toArray, List.set_cons_zero, List.set_cons_succ, i64_w, i32_w]; rfl))
              refine pure_ (i := 10) (N := some 45) (v := undef) (a' := ?_) (tf 11 9) rfl rfl (any_of HT_.out (by kernel_rfl)) (fun _ _ _ h => h) (Or.inr ⟨by rfl, rfl⟩) ?_ ?_
              rotate_left; (· (simp only [Act.put, List.setIfInBounds_toArray, List.set_cons_zero, List.set_cons_succ, i64_w, i32_w]; rfl))
              refine pure_ (i := 11) (N := some 46) (v := undef) (a' := ?_) (tf 12 8) rfl rfl (any_of HT_.out (by kernel_rfl)) (fun _ _ _ h => h) (Or.inr ⟨by rfl, rfl⟩) ?_ ?_
              rotate_left; (· (simp only [Act.put, List.setIfInBounds_toArray, List.set_cons_zero, List.set_cons_succ, i64_w, i32_w]; rfl))
              refine pure_ (i := 12) (N := some 47) (v := undef) (a' := ?_) (tf 13 7) rfl rfl (any_of HT_.out (by kernel_rfl)) (fun _ _ _ h => h) (Or.inr ⟨by rfl, rfl⟩) ?_ ?_
              rotate_left; (· (simp only [Act.put, List.setIfInBounds_toArray, List.set_cons_zero, List.set_cons_succ, i64_w, i32_w]; rfl))
              refine pure_ (i := 13) (N := some 48) (v := undef) (a' := ?_) (tf 14 6) rfl rfl (any_of HT_.out (by kernel_rfl)) (fun _ _ _ h => h) (Or.inr ⟨by rfl, rfl⟩) ?_ ?_
              rotate_left; (· (simp only [Act.put, List.setIfInBounds_toArray, List.set_cons_zero, List.set_cons_succ, i64_w, i32_w]; rfl))
              refine pure_ (i := 14) (N := some 49) (v := undef) (a' := ?_) (tf 15 5) rfl rfl (any_of HT_.out (by kernel_rfl)) (fun _ _ _ h => h) (Or.inr ⟨by rfl, rfl⟩) ?_ ?_
              rotate_left; (· (simp only [Act.put, List.setIfInBounds_toArray, List.set_cons_zero, List.set_cons_succ, i64_w, i32_w]; rfl))
              refine pure_ (i := 15) (N := some 50) (v := undef) (a' := ?_) (tf 16 4) rfl rfl (any_of HT_.out (by kernel_rfl)) (fun _ _ _ h => h) (Or.inr ⟨by rfl, rfl⟩) ?_ ?_
              rotate_left; (· (simp only [Act.put, List.setIfInBounds_toArray, List.set_cons_zero, List.set_cons_succ, i64_w, i32_w]; rfl))
              refine pure_ (i := 16) (N := some 51) (v := undef) (a' := ?_) (tf 17 3) rfl rfl (any_of HT_.out (by kernel_rfl)) (fun _ _ _ h => h) (Or.inr ⟨by rfl, rfl⟩) ?_ ?_
              rotate_left; (· (simp only [Act.put, List.setIfInBounds_toArray, List.set_cons_zero, List.set_cons_succ, i64_w, i32_w]; rfl))
              refine pure_ (i := 17) (N := some 52) (v := undef) (a' := ?_) (tf 18 2) rfl rfl (any_of HT_.out (by kernel_rfl)) (fun _ _ _ h => h) (Or.inr ⟨by rfl, rfl⟩) ?_ ?_
              rotate_left; (· (simp only [Act.put, List.setIfInBounds_toArray, List.set_cons_zero, List.set_cons_succ, i64_w, i32_w]; rfl))
              refine pure_ (i := 18) (N := some 53) (v := ?_) (a' := ?_) (tf 19 1) rfl rfl (any_of HT_.out (by kernel_rfl)) (fun _ _ _ h => h) (Or.inl ⟨by rfl, ?_⟩) ?_ ?_
              rotate_left
              · intro w'
                go_simp
                with_reducible rfl
              rotate_left; (· (simp only [Act.put, List.setIfInBounds_toArray, List.set_cons_zero, List.set_cons_succ, i64_w, i32_w]; rfl))
              refine pure_ (i := 19) (N := some 2) (v := ?_) (a' := ?_) (tf 20 0) rfl rfl (any_of HT_.out (by kernel_rfl)) (fun _ _ _ h => h) (Or.inl ⟨by rfl, ?_⟩) ?_ ?_
              rotate_left
              · intro w'
                go_simp
                with_reducible rfl
              rotate_left; (· (simp only [Act.put, List.setIfInBounds_toArray, List.set_cons_zero, List.set_cons_succ, i64_w, i32_w]; rfl))
              refine done_ (done_of HT_.out (by kernel_rfl)) ?_
              try go_wp2
              go_ret
              exact ⟨rr, bl⟩
          · rw [if_neg c12] at H
            have c12b0 : (t258 == 1) = false := beq_eq_false_iff_ne.mpr c12
            have c12b1 : (t258 != 1) = true := bne_iff_ne.mpr c12
            obtain rfl := Option.some.inj H
            have hcz26_0 : ∀ i, wc.cell? ⟨gb255, i, none⟩ = _ := blk_cell BK255.out
            have hcz26_1 : wc.cell? ⟨gb255, 1, none⟩ = some (.bool a0_1) := (blk_cell BK255.out 1).trans rfl
            have hcz26_2 : wc.cell? ⟨gb255, 2, none⟩ = some (.int .i64 a0_2) := (blk_cell BK255.out 2).trans rfl
            have hcz26_3 : wc.cell? ⟨gb255, 3, none⟩ = some (.int .i64 a0_3) := (blk_cell BK255.out 3).trans rfl
            have hcz26_4 : wc.cell? ⟨gb255, 4, none⟩ = some (.slice A0_4 l0_4.length c0_4) := (blk_cell BK255.out 4).trans rfl
            have hcz26_5 : wc.cell? ⟨gb255, 5, none⟩ = some (.slice A0_5 l0_5.length c0_5) := (blk_cell BK255.out 5).trans rfl
            have hcz26_6 : wc.cell? ⟨gb255, 6, none⟩ = some (.int .i64 a0_6) := (blk_cell BK255.out 6).trans rfl
            have hcz26_7 : wc.cell? ⟨gb255, 7, none⟩ = some (.bool a0_7) := (blk_cell BK255.out 7).trans rfl
            have hcz26_8 : wc.cell? ⟨gb255, 8, none⟩ = some (.bool a0_8) := (blk_cell BK255.out 8).trans rfl
            have hcz26_9 : wc.cell? ⟨gb255, 9, none⟩ = some (.bool a0_9) := (blk_cell BK255.out 9).trans rfl
            have hcz26_10 : wc.cell? ⟨gb255, 10, none⟩ = some (.int .i64 a0_10) := (blk_cell BK255.out 10).trans rfl
            have hcz26_11 : wc.cell? ⟨gb255, 11, none⟩ = some (.int .i64 a0_11) := (blk_cell BK255.out 11).trans rfl
            have hcz26_12 : wc.cell? ⟨gb255, 12, none⟩ = some (.int .i64 a0_12) := (blk_cell BK255.out 12).trans rfl
            have hfz26_0 := blk_frozen BK255.out
            have hfz26_1 := blk_frozen BK255.out 1
            have hfz26_2 := blk_frozen BK255.out 2
            have hfz26_3 := blk_frozen BK255.out 3
            have hfz26_4 := blk_frozen BK255.out 4
            have hfz26_5 := blk_frozen BK255.out 5
            have hfz26_6 := blk_frozen BK255.out 6
            have hfz26_7 := blk_frozen BK255.out 7
            have hfz26_8 := blk_frozen BK255.out 8
            have hfz26_9 := blk_frozen BK255.out 9
            have hfz26_10 := blk_frozen BK255.out 10
            have hfz26_11 := blk_frozen BK255.out 11
            have hfz26_12 := blk_frozen BK255.out 12
            try go_wp2
            have n0_ := Aside0.mk (blk_drew BK255.out)
            have n1_ := Aside0.mk (below_drew1 HB.out)
            clear BK255
            clear HB
            have BK255 := n0_
            have HB := n1_
            clear n0_ n1_
            refine start_ (n := 20) (S := fun w' => w'.heap[gb255]? = some (.cells #[.bool true, .bool a0_1, .int .i64 a0_2, .int .i64 a0_3, .slice A0_4 l0_4.length c0_4, .slice A0_5 l0_5.length c0_5, .int .i64 a0_6, .bool a0_7, .bool a0_8, .bool a0_9, .int .i64 a0_10, .int .i64 a0_11, .int .i64 a0_12] 33 (0, 0))) (ds := []) (tf 0 20) (by kernel_rfl) rfl rfl BK255.out (fun hHeld => ?_); refine with_tabW impl_AdmitOk.tab5 impl_AdmitOk.bits5 (fun HT_ HW_ => ?_)
            generalize wc.drew = w27 at BK255 HB hHeld ⊢
            refine pure_ (i := 0) (N := some 35) (v := ?_) (a' := ?_) (tf 1 19) rfl rfl (any_of HT_.out (by kernel_rfl)) (fun _ _ _ h => h) (Or.inl ⟨by rfl, ?_⟩) ?_ ?_
            rotate_left
            · intro w'
              go_simp
              with_reducible rfl
            rotate_left; (· (simp only [Act.put, List.setIfInBounds_toArray, List.set_cons_zero, List.set_cons_succ, i64_w, i32_w]; rfl))
            refine take_ (i := 1) (N := some 36) (v := ?_) (a' := ?_) (tf 2 18) rfl rfl (take_ofW HT_.out HW_.out (by kernel_rfl)) (fun _ _ _ h => h) (Or.inl ⟨by rfl, ?_⟩) hHeld ?_ ?_
            rotate_left
            · intro w' z255_
              have hcz255_ : ∀ i, w'.cell? ⟨gb255, i, none⟩ = _ := blk_cell z255_
              have hfz255_ := blk_frozen z255_
              first | (refine Eq.trans (load_here (g := gb255) (ty := 33) rfl rfl z255_ (by kernel_rfl) (by kernel_rfl)) ?_; with_reducible rfl) | (go_simp; with_reducible rfl)
            rotate_left; (· (simp only [Act.put, List.setIfInBounds_toArray, List.set_cons_zero, List.set_cons_succ, i64_w, i32_w]; rfl))
            refine one_ (i := 2) (N := some 37) (tf 3 17) rfl rfl (one_of HT_.out (by kernel_rfl)) (by decide) (fun K hK => ?_)
            refine goes_ Try.func33 (by kernel_rfl) rfl #[.agg #[.int .i64 a0_2, .int .i64 a0_3, .slice A0_4 l0_4.length c0_4, .slice A0_5 l0_5.length c0_5]] (by rfl) rfl rfl (by (try simp only [List.map_toArray, List.map_cons, List.map_nil]); first | done | rfl | (simp only [List.length_drop, List.length_take]; rfl)) ?_
            with_reducible refine (impl_TilesOf.calls kj1 a0_2 a0_3 _ _ l0_4 _ _ l0_5 t258 _ ?side1 ?side2 ?side3 ?side4 A11.out).mono ?_
            (case side1 => repeat (first | exact (Kd.C_below HR0_4.out HB.out) | (with_reducible refine Kd.C_alloc ?_ _) | (with_reducible refine Kd.C_drewN ?_ _) | (with_reducible refine Kd.C_drew ?_)))
            (case side2 => exact HC0_4.out)
            (case side3 => repeat (first | exact (Kd.C_below HR0_5.out HB.out) | (with_reducible refine Kd.C_alloc ?_ _) | (with_reducible refine Kd.C_drewN ?_ _) | (with_reducible refine Kd.C_drew ?_)))
            (case side4 => exact HC0_5.out)
            rintro e w28 ⟨rfl, hb⟩
            refine ⟨_, rfl, ?_⟩
            have n0_ := Aside0.mk (blk_below (bx BK255.out) hb)
            have n1_ := bs HB hb
            clear BK255
            clear HB
            have BK255 := n0_
            have HB := n1_
            clear n0_ n1_
            (try clear hb)
            (try clear hb2)
            (try clear hk)
            (try clear hi)
            refine hK.out _ _ BK255.out (fun hHeld => ?_)
            clear hK K
            refine norm_ (a' := ?_) ?_ ?_
            rotate_left
            · show Act.put _ (some 37) _ = _
              simp only [Act.put, List.setIfInBounds_toArray, List.set_cons_zero, List.set_cons_succ, i64_w, i32_w]
              rfl
            refine pure_ (i := 3) (N := some 38) (v := ?_) (a' := ?_) (tf 4 16) rfl rfl (any_of HT_.out (by kernel_rfl)) (fun _ _ _ h => h) (Or.inl ⟨by rfl, ?_⟩) ?_ ?_
            rotate_left
            · intro w'
              go_simp
              with_reducible rfl
            rotate_left; (· (simp only [Act.put, List.setIfInBounds_toArray, List.set_cons_zero, List.set_cons_succ, i64_w, i32_w]; rfl))
            refine pure_ (i := 4) (N := some 39) (v := ?_) (a' := ?_) (tf 5 15) rfl rfl (any_of HT_.out (by kernel_rfl)) (fun _ _ _ h => h) (Or.inl ⟨by rfl, ?_⟩) ?_ ?_
            rotate_left
            · intro w'
              go_simp
              with_reducible rfl
            rotate_left; (· (simp only [Act.put, List.setIfInBounds_toArray, List.set_cons_zero, List.set_cons_succ, i64_w, i32_w]; rfl))
            refine pure_ (i := 5) (N := some 40) (v := undef) (a' := ?_) (tf 6 14) rfl rfl (any_of HT_.out (by kernel_rfl)) (fun _ _ _ h => h) (Or.inr ⟨by rfl, rfl⟩) ?_ ?_
            rotate_left; (· (simp only [Act.put, List.setIfInBounds_toArray, List.set_cons_zero, List.set_cons_succ, i64_w, i32_w]; rfl))
            refine pure_ (i := 6) (N := some 41) (v := undef) (a' := ?_) (tf 7 13) rfl rfl (any_of HT_.out (by kernel_rfl)) (fun _ _ _ h => h) (Or.inr ⟨by rfl, rfl⟩) ?_ ?_
            rotate_left; (· (simp only [Act.put, List.setIfInBounds_toArray, List.set_cons_zero, List.set_cons_succ, i64_w, i32_w]; rfl))
            refine pure_ (i := 7) (N := some 42) (v := undef) (a' := ?_) (tf 8 12) rfl rfl (any_of HT_.out (by kernel_rfl)) (fun _ _ _ h => h) (Or.inr ⟨by rfl, rfl⟩) ?_ ?_
            rotate_left; (· (simp only [Act.put, List.setIfInBounds_toArray, List.set_cons_zero, List.set_cons_succ, i64_w, i32_w]; rfl))
            refine pure_ (i := 8) (N := some 43) (v := ?_) (a' := ?_) (tf 9 11) rfl rfl (any_of HT_.out (by kernel_rfl)) (fun _ _ _ h => h) (Or.inl ⟨by rfl, ?_⟩) ?_ ?_
            rotate_left
            · intro w'
              go_simp
              with_reducible rfl
            rotate_left; (· (simp only [Act.put, List.setIfInBounds_toArray, List.set_cons_zero, List.set_cons_succ, i64_w, i32_w]; rfl))
            refine pure_ (i := 9) (N := some 44) (v := ?_) (a' := ?_) (tf 10 10) rfl rfl (any_of HT_.out (by kernel_rfl)) (fun _ _ _ h => h) (Or.inl ⟨by rfl, ?_⟩) ?_ ?_
            rotate_left
            · intro w'
              go_simp
              with_reducible rfl
            rotate_left; (· (simp only [Act.put, List.setIfInBounds_toArray, List.set_cons_zero, List.set_cons_succ, i64_w, i32_w]; rfl))
            refine pure_ (i := 10) (N := some 45) (v := undef) (a' := ?_) (tf 11 9) rfl rfl (any_of HT_.out (by kernel_rfl)) (fun _ _ _ h => h) (Or.inr ⟨by rfl, rfl⟩) ?_ ?_
            rotate_left; (· (simp only [Act.put, List.setIfInBounds_toArray, List.set_cons_zero, List.set_cons_succ, i64_w, i32_w]; rfl))
            refine pure_ (i := 11) (N := some 46) (v := undef) (a' := ?_) (tf 12 8) rfl rfl (any_of HT_.out (by kernel_rfl)) (fun _ _ _ h => h) (Or.inr ⟨by rfl, rfl⟩) ?_ ?_
            rotate_left; (· (simp only [Act.put, List.setIfInBounds_toArray, List.set_cons_zero, List.set_cons_succ, i64_w, i32_w]; rfl))
            refine pure_ (i := 12) (N := some 47) (v := undef) (a' := ?_) (tf 13 7) rfl rfl (any_of HT_.out (by kernel_rfl)) (fun _ _ _ h => h) (Or.inr ⟨by rfl, rfl⟩) ?_ ?_
            rotate_left; (· (simp only [Act.put, List.setIfInBounds_toArray, List.set_cons_zero, List.set_cons_succ, i64_w, i32_w]; rfl))
            refine pure_ (i := 13) (N := some 48) (v := undef) (a' := ?_) (tf 14 6) rfl rfl (any_of HT_.out (by kernel_rfl)) (fun _ _ _ h => h) (Or.inr ⟨by rfl, rfl⟩) ?_ ?_
            rotate_left; (· (simp only [Act.put, List.setIfInBounds_toArray, List.set_cons_zero, List.set_cons_succ, i64_w, i32_w]; rfl))
            refine pure_ (i := 14) (N := some 49) (v := undef) (a' := ?_) (tf 15 5) rfl rfl (any_of HT_.out (by kernel_rfl)) (fun _ _ _ h => h) (Or.inr ⟨by rfl, rfl⟩) ?_ ?_
            rotate_left; (· (simp only [Act.put, List.setIfInBounds_toArray, List.set_cons_zero, List.set_cons_succ, i64_w, i32_w]; rfl))
            refine pure_ (i := 15) (N := some 50) (v := undef) (a' := ?_) (tf 16 4) rfl rfl (any_of HT_.out (by kernel_rfl)) (fun _ _ _ h => h) (Or.inr ⟨by rfl, rfl⟩) ?_ ?_
            rotate_left; (· (simp only [Act.put, List.setIfInBounds_toArray, List.set_cons_zero, List.set_cons_succ, i64_w, i32_w]; rfl))
            refine pure_ (i := 16) (N := some 51) (v := undef) (a' := ?_) (tf 17 3) rfl rfl (any_of HT_.out (by kernel_rfl)) (fun _ _ _ h => h) (Or.inr ⟨by rfl, rfl⟩) ?_ ?_
            rotate_left; (· (simp only [Act.put, List.setIfInBounds_toArray, List.set_cons_zero, List.set_cons_succ, i64_w, i32_w]; rfl))
            refine pure_ (i := 17) (N := some 52) (v := undef) (a' := ?_) (tf 18 2) rfl rfl (any_of HT_.out (by kernel_rfl)) (fun _ _ _ h => h) (Or.inr ⟨by rfl, rfl⟩) ?_ ?_
            rotate_left; (· (simp only [Act.put, List.setIfInBounds_toArray, List.set_cons_zero, List.set_cons_succ, i64_w, i32_w]; rfl))
            refine pure_ (i := 18) (N := some 53) (v := ?_) (a' := ?_) (tf 19 1) rfl rfl (any_of HT_.out (by kernel_rfl)) (fun _ _ _ h => h) (Or.inl ⟨by rfl, ?_⟩) ?_ ?_
            rotate_left
            · intro w'
              go_simp
              with_reducible rfl
            rotate_left; (· (simp only [Act.put, List.setIfInBounds_toArray, List.set_cons_zero, List.set_cons_succ, i64_w, i32_w]; rfl))
            refine pure_ (i := 19) (N := some 2) (v := ?_) (a' := ?_) (tf 20 0) rfl rfl (any_of HT_.out (by kernel_rfl)) (fun _ _ _ h => h) (Or.inl ⟨by rfl, ?_⟩) ?_ ?_
            rotate_left
            · intro w'
              go_simp
              with_reducible rfl
            rotate_left; (· (simp only [Act.put, List.setIfInBounds_toArray, List.set_cons_zero, List.set_cons_succ, i64_w, i32_w]; rfl))
            refine done_ (done_of HT_.out (by kernel_rfl)) ?_
            try go_wp2
            go_ret
            exact ⟨rr, bl⟩
        · replace c10 := Bool.eq_false_iff.mpr c10
          subst c10
          have H1 : (if a0_1 = true then (some false) else ((impl_isNoSeq.f a0_2 a0_3 l0_4 l0_5).bind fun t261 => (if t261 = true then (if (a0_6 == 0 && (!a0_7 && (!a0_8 && (!a0_9)))) = true then (some (a0_10 == 0)) else (some false)) else (some false)))) = some r := by rw [if_neg (show ¬ (false = true) by decide)] at H; exact H
          clear H
          have H := H1
          clear H1
          by_cases c29 : a0_1 = true
          · subst c29
            rw [if_pos rfl] at H
            obtain rfl := Option.some.inj H
            have hcz30_0 : ∀ i, wc.cell? ⟨gb255, i, none⟩ = _ := blk_cell BK255.out
            have hcz30_1 : wc.cell? ⟨gb255, 1, none⟩ = some (.bool true) := (blk_cell BK255.out 1).trans rfl
            have hcz30_2 : wc.cell? ⟨gb255, 2, none⟩ = some (.int .i64 a0_2) := (blk_cell BK255.out 2).trans rfl
            have hcz30_3 : wc.cell? ⟨gb255, 3, none⟩ = some (.int .i64 a0_3) := (blk_cell BK255.out 3).trans rfl
            have hcz30_4 : wc.cell? ⟨gb255, 4, none⟩ = some (.slice A0_4 l0_4.length c0_4) := (blk_cell BK255.out 4).trans rfl
            have hcz30_5 : wc.cell? ⟨gb255, 5, none⟩ = some (.slice A0_5 l0_5.length c0_5) := (blk_cell BK255.out 5).trans rfl
            have hcz30_6 : wc.cell? ⟨gb255, 6, none⟩ = some (.int .i64 a0_6) := (blk_cell BK255.out 6).trans rfl
            have hcz30_7 : wc.cell? ⟨gb255, 7, none⟩ = some (.bool a0_7) := (blk_cell BK255.out 7).trans rfl
            have hcz30_8 : wc.cell? ⟨gb255, 8, none⟩ = some (.bool a0_8) := (blk_cell BK255.out 8).trans rfl
            have hcz30_9 : wc.cell? ⟨gb255, 9, none⟩ = some (.bool a0_9) := (blk_cell BK255.out 9).trans rfl
            have hcz30_10 : wc.cell? ⟨gb255, 10, none⟩ = some (.int .i64 a0_10) := (blk_cell BK255.out 10).trans rfl
            have hcz30_11 : wc.cell? ⟨gb255, 11, none⟩ = some (.int .i64 a0_11) := (blk_cell BK255.out 11).trans rfl
            have hcz30_12 : wc.cell? ⟨gb255, 12, none⟩ = some (.int .i64 a0_12) := (blk_cell BK255.out 12).trans rfl
            have hfz30_0 := blk_frozen BK255.out
            have hfz30_1 := blk_frozen BK255.out 1
            have hfz30_2 := blk_frozen BK255.out 2
            have hfz30_3 := blk_frozen BK255.out 3
            have hfz30_4 := blk_frozen BK255.out 4
            have hfz30_5 := blk_frozen BK255.out 5
            have hfz30_6 := blk_frozen BK255.out 6
            have hfz30_7 := blk_frozen BK255.out 7
            have hfz30_8 := blk_frozen BK255.out 8
            have hfz30_9 := blk_frozen BK255.out 9
            have hfz30_10 := blk_frozen BK255.out 10
            have hfz30_11 := blk_frozen BK255.out 11
            have hfz30_12 := blk_frozen BK255.out 12
            go_wp2
            go_ret
            exact ⟨rr, bl⟩
          · replace c29 := Bool.eq_false_iff.mpr c29
            subst c29
            have H1 : ((impl_isNoSeq.f a0_2 a0_3 l0_4 l0_5).bind fun t261 => (if t261 = true then (if (a0_6 == 0 && (!a0_7 && (!a0_8 && (!a0_9)))) = true then (some (a0_10 == 0)) else (some false)) else (some false))) = some r := by rw [if_neg (show ¬ (false = true) by decide)] at H; exact H
            clear H
            have H := H1
            clear H1
            replace H := Option.bind_eq_some_iff.mp H
            obtain ⟨t261, A310, H⟩ := H
            (try dsimp only at H)
            have A31 := Aside0.mk A310
            clear A310
            by_cases c32 : t261 = true
            · subst c32
              rw [if_pos rfl] at H
              by_cases c33 : (a0_6 == 0 && (!a0_7 && (!a0_8 && (!a0_9)))) = true
              · rw [if_pos c33] at H
                have c33b0 : (a0_6 == 0 && (!a0_7 && (!a0_8 && (!a0_9)))) = true := c33
                (try (have c33b1 : decide (a0_6 = 0 && (!a0_7 && (!a0_8 && (!a0_9)))) = true := by simpa using c33))
                (try (have c33b2 : (a0_6 == 0 && (!a0_7 && (!a0_8 && (!a0_9)))) = true := by simpa using c33))
                clear c33
                obtain rfl := Option.some.inj H
                have hcz34_0 : ∀ i, wc.cell? ⟨gb255, i, none⟩ = _ := blk_cell BK255.out
                have hcz34_1 : wc.cell? ⟨gb255, 1, none⟩ = some (.bool false) := (blk_cell BK255.out 1).trans rfl
                have hcz34_2 : wc.cell? ⟨gb255, 2, none⟩ = some (.int .i64 a0_2) := (blk_cell BK255.out 2).trans rfl
                have hcz34_3 : wc.cell? ⟨gb255, 3, none⟩ = some (.int .i64 a0_3) := (blk_cell BK255.out 3).trans rfl
                have hcz34_4 : wc.cell? ⟨gb255, 4, none⟩ = some (.slice A0_4 l0_4.length c0_4) := (blk_cell BK255.out 4).trans rfl
                have hcz34_5 : wc.cell? ⟨gb255, 5, none⟩ = some (.slice A0_5 l0_5.length c0_5) := (blk_cell BK255.out 5).trans rfl
                have hcz34_6 : wc.cell? ⟨gb255, 6, none⟩ = some (.int .i64 a0_6) := (blk_cell BK255.out 6).trans rfl
                have hcz34_7 : wc.cell? ⟨gb255, 7, none⟩ = some (.bool a0_7) := (blk_cell BK255.out 7).trans rfl
                have hcz34_8 : wc.cell? ⟨gb255, 8, none⟩ = some (.bool a0_8) := (blk_cell BK255.out 8).trans rfl
                have hcz34_9 : wc.cell? ⟨gb255, 9, none⟩ = some (.bool a0_9) := (blk_cell BK255.out 9).trans rfl
                have hcz34_10 : wc.cell? ⟨gb255, 10, none⟩ = some (.int .i64 a0_10) := (blk_cell BK255.out 10).trans rfl
                have hcz34_11 : wc.cell? ⟨gb255, 11, none⟩ = some (.int .i64 a0_11) := (blk_cell BK255.out 11).trans rfl
                have hcz34_12 : wc.cell? ⟨gb255, 12, none⟩ = some (.int .i64 a0_12) := (blk_cell BK255.out 12).trans rfl
                have hfz34_0 := blk_frozen BK255.out
                have hfz34_1 := blk_frozen BK255.out 1
                have hfz34_2 := blk_frozen BK255.out 2
                have hfz34_3 := blk_frozen BK255.out 3
                have hfz34_4 := blk_frozen BK255.out 4
                have hfz34_5 := blk_frozen BK255.out 5
                have hfz34_6 := blk_frozen BK255.out 6
                have hfz34_7 := blk_frozen BK255.out 7
                have hfz34_8 := blk_frozen BK255.out 8
                have hfz34_9 := blk_frozen BK255.out 9
                have hfz34_10 := blk_frozen BK255.out 10
                have hfz34_11 := blk_frozen BK255.out 11
                have hfz34_12 := blk_frozen BK255.out 12
                go_wp2_with (first | ((with_reducible refine gate_load (t := 33) rfl ?_); refine load_all (g := gb255) (ty := 33) rfl rfl rfl (bx BK255.out) (by kernel_rfl) (by kernel_rfl) ?_; simp only [Act.put, List.setIfInBounds_toArray, List.set_cons_zero, List.set_cons_succ]) | (go_at_call 32; (with_reducible refine (impl_isNoSeq.calls a0_2 a0_3 _ _ l0_4 _ _ l0_5 true _ ?side1 ?side2 ?side3 ?side4 A31.out).mono ?_); (case side1 => repeat (first | exact (Kd.C_below HR0_4.out HB.out) | (with_reducible refine Kd.C_alloc ?_ _) | (with_reducible refine Kd.C_drewN ?_ _) | (with_reducible refine Kd.C_drew ?_))); (case side2 => exact HC0_4.out); (case side3 => repeat (first | exact (Kd.C_below HR0_5.out HB.out) | (with_reducible refine Kd.C_alloc ?_ _) | (with_reducible refine Kd.C_drewN ?_ _) | (with_reducible refine Kd.C_drew ?_))); (case side4 => exact HC0_5.out); rintro e w35 ⟨rfl, hb⟩; have n0_ := Aside0.mk (blk_below (bx BK255.out) hb); have n1_ := bs HB hb; clear BK255; clear HB; have BK255 := n0_; have HB := n1_; clear n0_ n1_; (try clear hb); (try clear hb2); (try clear hk); (try clear hi); have hcz36_0 : ∀ i, w35.cell? ⟨gb255, i, none⟩ = _ := blk_cell BK255.out; have hfz36_0 := blk_frozen BK255.out))
                go_ret
                exact ⟨rr, bl⟩
              · rw [if_neg c33] at H
                have c33b0 : (a0_6 == 0 && (!a0_7 && (!a0_8 && (!a0_9)))) = false := by simpa using c33
                (try (have c33b1 : decide (a0_6 = 0 && (!a0_7 && (!a0_8 && (!a0_9)))) = false := by simpa using c33))
                (try (have c33b2 : (a0_6 == 0 && (!a0_7 && (!a0_8 && (!a0_9)))) = false := by simpa using c33))
                (try (have c33b3 : ¬ (a0_6 = 0 && (!a0_7 && (!a0_8 && (!a0_9)))) := by simpa using c33))
                clear c33
                obtain rfl := Option.some.inj H
                have hcz37_0 : ∀ i, wc.cell? ⟨gb255, i, none⟩ = _ := blk_cell BK255.out
                have hcz37_1 : wc.cell? ⟨gb255, 1, none⟩ = some (.bool false) := (blk_cell BK255.out 1).trans rfl
                have hcz37_2 : wc.cell? ⟨gb255, 2, none⟩ = some (.int .i64 a0_2) := (blk_cell BK255.out 2).trans rfl
                have hcz37_3 : wc.cell? ⟨gb255, 3, none⟩ = some (.int .i64 a0_3) := (blk_cell BK255.out 3).trans rfl
                have hcz37_4 : wc.cell? ⟨gb255, 4, none⟩ = some (.slice A0_4 l0_4.length c0_4) := (blk_cell BK255.out 4).trans rfl
                have hcz37_5 : wc.cell? ⟨gb255, 5, none⟩ = some (.slice A0_5 l0_5.length c0_5) := (blk_cell BK255.out 5).trans rfl
                have hcz37_6 : wc.cell? ⟨gb255, 6, none⟩ = some (.int .i64 a0_6) := (blk_cell BK255.out 6).trans rfl
                have hcz37_7 : wc.cell? ⟨gb255, 7, none⟩ = some (.bool a0_7) := (blk_cell BK255.out 7).trans rfl
                have hcz37_8 : wc.cell? ⟨gb255, 8, none⟩ = some (.bool a0_8) := (blk_cell BK255.out 8).trans rfl
                have hcz37_9 : wc.cell? ⟨gb255, 9, none⟩ = some (.bool a0_9) := (blk_cell BK255.out 9).trans rfl
                have hcz37_10 : wc.cell? ⟨gb255, 10, none⟩ = some (.int .i64 a0_10) := (blk_cell BK255.out 10).trans rfl
                have hcz37_11 : wc.cell? ⟨gb255, 11, none⟩ = some (.int .i64 a0_11) := (blk_cell BK255.out 11).trans rfl
                have hcz37_12 : wc.cell? ⟨gb255, 12, none⟩ = some (.int .i64 a0_12) := (blk_cell BK255.out 12).trans rfl
                have hfz37_0 := blk_frozen BK255.out
                have hfz37_1 := blk_frozen BK255.out 1
                have hfz37_2 := blk_frozen BK255.out 2
                have hfz37_3 := blk_frozen BK255.out 3
                have hfz37_4 := blk_frozen BK255.out 4
                have hfz37_5 := blk_frozen BK255.out 5
                have hfz37_6 := blk_frozen BK255.out 6
                have hfz37_7 := blk_frozen BK255.out 7
                have hfz37_8 := blk_frozen BK255.out 8
                have hfz37_9 := blk_frozen BK255.out 9
                have hfz37_10 := blk_frozen BK255.out 10
                have hfz37_11 := blk_frozen BK255.out 11
                have hfz37_12 := blk_frozen BK255.out 12
                go_wp2_with (first | ((with_reducible refine gate_load (t := 33) rfl ?_); refine load_all (g := gb255) (ty := 33) rfl rfl rfl (bx BK255.out) (by kernel_rfl) (by kernel_rfl) ?_; simp only [Act.put, List.setIfInBounds_toArray, List.set_cons_zero, List.set_cons_succ]) | (go_at_call 32; (with_reducible refine (impl_isNoSeq.calls a0_2 a0_3 _ _ l0_4 _ _ l0_5 true _ ?side1 ?side2 ?side3 ?side4 A31.out).mono ?_); (case side1 => repeat (first | exact (Kd.C_below HR0_4.out HB.out) | (with_reducible refine Kd.C_alloc ?_ _) | (with_reducible refine Kd.C_drewN ?_ _) | (with_reducible refine Kd.C_drew ?_))); (case side2 => exact HC0_4.out); (case side3 => repeat (first | exact (Kd.C_below HR0_5.out HB.out) | (with_reducible refine Kd.C_alloc ?_ _) | (with_reducible refine Kd.C_drewN ?_ _) | (with_reducible refine Kd.C_drew ?_))); (case side4 => exact HC0_5.out); rintro e w38 ⟨rfl, hb⟩; have n0_ := Aside0.mk (blk_below (bx BK255.out) hb); have n1_ := bs HB hb; clear BK255; clear HB; have BK255 := n0_; have HB := n1_; clear n0_ n1_; (try clear hb); (try clear hb2); (try clear hk); (try clear hi); have hcz39_0 : ∀ i, w38.cell? ⟨gb255, i, none⟩ = _ := blk_cell BK255.out; have hfz39_0 := blk_frozen BK255.out))
                go_ret
                exact ⟨rr, bl⟩
            · replace c32 := Bool.eq_false_iff.mpr c32
              subst c32
              have H1 : (some false) = some r := by rw [if_neg (show ¬ (false = true) by decide)] at H; exact H
              clear H
              have H := H1
              clear H1
              obtain rfl := Option.some.inj H
              have hcz40_0 : ∀ i, wc.cell? ⟨gb255, i, none⟩ = _ := blk_cell BK255.out
              have hcz40_1 : wc.cell? ⟨gb255, 1, none⟩ = some (.bool false) := (blk_cell BK255.out 1).trans rfl
              have hcz40_2 : wc.cell? ⟨gb255, 2, none⟩ = some (.int .i64 a0_2) := (blk_cell BK255.out 2).trans rfl
              have hcz40_3 : wc.cell? ⟨gb255, 3, none⟩ = some (.int .i64 a0_3) := (blk_cell BK255.out 3).trans rfl
              have hcz40_4 : wc.cell? ⟨gb255, 4, none⟩ = some (.slice A0_4 l0_4.length c0_4) := (blk_cell BK255.out 4).trans rfl
              have hcz40_5 : wc.cell? ⟨gb255, 5, none⟩ = some (.slice A0_5 l0_5.length c0_5) := (blk_cell BK255.out 5).trans rfl
              have hcz40_6 : wc.cell? ⟨gb255, 6, none⟩ = some (.int .i64 a0_6) := (blk_cell BK255.out 6).trans rfl
              have hcz40_7 : wc.cell? ⟨gb255, 7, none⟩ = some (.bool a0_7) := (blk_cell BK255.out 7).trans rfl
              have hcz40_8 : wc.cell? ⟨gb255, 8, none⟩ = some (.bool a0_8) := (blk_cell BK255.out 8).trans rfl
              have hcz40_9 : wc.cell? ⟨gb255, 9, none⟩ = some (.bool a0_9) := (blk_cell BK255.out 9).trans rfl
              have hcz40_10 : wc.cell? ⟨gb255, 10, none⟩ = some (.int .i64 a0_10) := (blk_cell BK255.out 10).trans rfl
              have hcz40_11 : wc.cell? ⟨gb255, 11, none⟩ = some (.int .i64 a0_11) := (blk_cell BK255.out 11).trans rfl
              have hcz40_12 : wc.cell? ⟨gb255, 12, none⟩ = some (.int .i64 a0_12) := (blk_cell BK255.out 12).trans rfl
              have hfz40_0 := blk_frozen BK255.out
              have hfz40_1 := blk_frozen BK255.out 1
              have hfz40_2 := blk_frozen BK255.out 2
              have hfz40_3 := blk_frozen BK255.out 3
              have hfz40_4 := blk_frozen BK255.out 4
              have hfz40_5 := blk_frozen BK255.out 5
              have hfz40_6 := blk_frozen BK255.out 6
              have hfz40_7 := blk_frozen BK255.out 7
              have hfz40_8 := blk_frozen BK255.out 8
              have hfz40_9 := blk_frozen BK255.out 9
              have hfz40_10 := blk_frozen BK255.out 10
              have hfz40_11 := blk_frozen BK255.out 11
              have hfz40_12 := blk_frozen BK255.out 12
              go_wp2_with (first | ((with_reducible refine gate_load (t := 33) rfl ?_); refine load_all (g := gb255) (ty := 33) rfl rfl rfl (bx BK255.out) (by kernel_rfl) (by kernel_rfl) ?_; simp only [Act.put, List.setIfInBounds_toArray, List.set_cons_zero, List.set_cons_succ]) | (go_at_call 32; (with_reducible refine (impl_isNoSeq.calls a0_2 a0_3 _ _ l0_4 _ _ l0_5 false _ ?side1 ?side2 ?side3 ?side4 A31.out).mono ?_); (case side1 => repeat (first | exact (Kd.C_below HR0_4.out HB.out) | (with_reducible refine Kd.C_alloc ?_ _) | (with_reducible refine Kd.C_drewN ?_ _) | (with_reducible refine Kd.C_drew ?_))); (case side2 => exact HC0_4.out); (case side3 => repeat (first | exact (Kd.C_below HR0_5.out HB.out) | (with_reducible refine Kd.C_alloc ?_ _) | (with_reducible refine Kd.C_drewN ?_ _) | (with_reducible refine Kd.C_drew ?_))); (case side4 => exact HC0_5.out); rintro e w41 ⟨rfl, hb⟩; have n0_ := Aside0.mk (blk_below (bx BK255.out) hb); have n1_ := bs HB hb; clear BK255; clear HB; have BK255 := n0_; have HB := n1_; clear n0_ n1_; (try clear hb); (try clear hb2); (try clear hk); (try clear hi)))
              go_ret
              exact ⟨rr, bl⟩

end Go.Proofs.Ythgoneamhlcmbaa.QFnExactAdmitLose
