/- Contracts of the functions that a law reaches: each Go function comes to what its Lean function tells. Written by this session's own program. Conditions: as each statement tells. -/
import Derived.Test.YthgoneamhlcmbaaQFnExactAdmitLosex0
import Derived.Test.YthgoneamhlcmbaaQFnExactAdmitLosex1
import Derived.Test.YthgoneamhlcmbaaQFnExactAdmitLosex2
namespace Go.Proofs.Ythgoneamhlcmbaa.QFnExactAdmitLose
open Go.RowKit Go.Proofs.YthgoneamhlcmbaaW.PrintWords Go.Proofs.YthgoneamhlcmbaaW.PrintLast Go.Proofs.YthgoneamhlcmbaaW.PrintMore
attribute [local go_sem] i64_w i32_w w64_m256 max2_int min2_int max_two min_two max_three min_three max_four min_four   -- for this text's walks alone
set_option linter.unusedVariables false
set_option linter.unusedSimpArgs false

attribute [local go_sem high] eqA31
/-! ### spec_TilesOf: function 26 -/
def spec_TilesOf.f (k : Nat) (a0_0 : Int) (a0_1 : Int) (l0_2 : List Int) (l0_3 : List Int) : Option (Int) := (spec_SeqOk.f k a0_0 a0_1 l0_2 l0_3).bind fun t133 => (if t133 = true then (some (wrap64 ((l0_2.length : Int) * (l0_3.length : Int)))) else (some 0))
theorem spec_TilesOf.mono : ∀ a0 a1 a2 a3 k, LeO (spec_TilesOf.f k a0 a1 a2 a3) (spec_TilesOf.f (k + 1) a0 a1 a2 a3) := by
  intro a0 a1 a2 a3 k
  unfold spec_TilesOf.f
  repeat' first
      | (with_reducible exact spec_SeqOk.mono _ _ _ _ _)
      | (with_reducible exact LeO.refl _)
      | (with_reducible exact LeO.none _)
      | (with_reducible refine LeO.ite ?_ ?_)
      | (with_reducible refine LeO.bind ?_ (fun _ => ?_))
      | exact spec_SeqOk.mono _ _ _ _ _
      | exact LeO.none _
      | refine LeO.ite ?_ ?_
      | refine LeO.bind ?_ (fun _ => ?_)
set_option maxHeartbeats 8000000 in
set_option maxRecDepth 100000 in
theorem spec_TilesOf.calls (k : Nat) (a0_0 : Int) (a0_1 : Int) (A0_2 : Option Addr) (c0_2 : Nat) (l0_2 : List Int) (A0_3 : Option Addr) (c0_3 : Nat) (l0_3 : List Int) (r : Int) (w : World) (hr0_2 : Kd.C (Kd.int .i64) w A0_2 l0_2.length l0_2) (hc0_2 : l0_2.length ≤ c0_2) (hr0_3 : Kd.C (Kd.int .i64) w A0_3 l0_3.length l0_3) (hc0_3 : l0_3.length ≤ c0_3) (h : spec_TilesOf.f k a0_0 a0_1 l0_2 l0_3 = some r) :
    Calls Try.prog 26 #[.agg #[.int .i64 a0_0, .int .i64 a0_1, .slice A0_2 l0_2.length c0_2, .slice A0_3 l0_3.length c0_3]] w fun e w' => e = .returned (.int .i64 r) ∧ Below w.heap.size w w' := by
  have hu30 := Try.underlying30
  have HR0_2 := Aside0.mk hr0_2
  have HC0_2 := Aside0.mk hc0_2
  clear hr0_2 hc0_2
  have HR0_3 := Aside0.mk hr0_3
  have HC0_3 := Aside0.mk hc0_3
  clear hr0_3 hc0_3
  have HB := Aside0.mk (Below.refl w.heap.size w)
  have H : ((spec_SeqOk.f k a0_0 a0_1 l0_2 l0_3).bind fun t133 => (if t133 = true then (some (wrap64 ((l0_2.length : Int) * (l0_3.length : Int)))) else (some 0))) = some r := h
  clear h
  replace H := Option.bind_eq_some_iff.mp H
  obtain ⟨t133, A20, H⟩ := H
  (try dsimp only at H)
  have A2 := Aside0.mk A20
  clear A20
  by_cases c3 : t133 = true
  · subst c3
    rw [if_pos rfl] at H
    obtain rfl := Option.some.inj H
    go_enter Try.func26, Try.ntmps26
    go_wp2_with (first | ((with_reducible refine gate_dst (N := 1) rfl ?_); refine box_event ?hg (N := 1) ?hd (cs := #[.int .i64 a0_0, .int .i64 a0_1, .slice A0_2 l0_2.length c0_2, .slice A0_3 l0_3.length c0_3]) (t := 30) ?hr ?_; (case hd => rfl); (case hg => rfl); (case hr => first | (go_simp; done) | (go_simp; rfl)); intro gb132 hg w4 hbox hb; have n0_ := bs HB hb; have n1_ := Aside0.mk (hbox); have n2_ := bz hg; have n3_ := bz hg; clear HB; have HB := n0_; have BK132 := n1_; have GW132 := n2_; have GE132 := n3_; clear n0_ n1_ n2_ n3_; clear hb hbox hg; have hcz5_0 : ∀ i, w4.cell? ⟨gb132, i, none⟩ = _ := blk_cell BK132.out; have hfz5_0 := blk_frozen BK132.out) | ((with_reducible refine gate_callee (f := 39) rfl ?_); refine goesL_ (some 4) rfl rfl Try.func39 (by kernel_rfl) rfl #[.agg #[.int .i64 a0_0, .int .i64 a0_1, .slice A0_2 l0_2.length c0_2, .slice A0_3 l0_3.length c0_3]] rfl (by (try simp only [List.map_toArray, List.map_cons, List.map_nil]); first | done | rfl | (simp only [List.length_drop, List.length_take]; rfl)) ?_; (with_reducible refine (spec_SeqOk.calls k a0_0 a0_1 _ _ l0_2 _ _ l0_3 true _ ?side1 ?side2 ?side3 ?side4 A2.out).mono ?_); (case side1 => repeat (first | exact (Kd.C_below HR0_2.out HB.out) | (with_reducible refine Kd.C_alloc ?_ _) | (with_reducible refine Kd.C_drewN ?_ _) | (with_reducible refine Kd.C_drew ?_))); (case side2 => exact HC0_2.out); (case side3 => repeat (first | exact (Kd.C_below HR0_3.out HB.out) | (with_reducible refine Kd.C_alloc ?_ _) | (with_reducible refine Kd.C_drewN ?_ _) | (with_reducible refine Kd.C_drew ?_))); (case side4 => exact HC0_3.out); rintro e w6 ⟨rfl, hb⟩; refine ⟨_, rfl, ?_⟩; have n0_ := Aside0.mk (blk_below (bx BK132.out) hb); have n1_ := bs HB hb; clear BK132; clear HB; have BK132 := n0_; have HB := n1_; clear n0_ n1_; (try clear hb); (try clear hb2); (try clear hk); (try clear hi); have hcz7_0 : ∀ i, w6.cell? ⟨gb132, i, none⟩ = _ := blk_cell BK132.out; have hfz7_0 := blk_frozen BK132.out))
    go_ret
    exact ⟨rr, bl⟩
  · replace c3 := Bool.eq_false_iff.mpr c3
    subst c3
    have H1 : (some 0) = some r := by rw [if_neg (show ¬ (false = true) by decide)] at H; exact H
    clear H
    have H := H1
    clear H1
    obtain rfl := Option.some.inj H
    go_enter Try.func26, Try.ntmps26
    go_wp2_with (first | ((with_reducible refine gate_dst (N := 1) rfl ?_); refine box_event ?hg (N := 1) ?hd (cs := #[.int .i64 a0_0, .int .i64 a0_1, .slice A0_2 l0_2.length c0_2, .slice A0_3 l0_3.length c0_3]) (t := 30) ?hr ?_; (case hd => rfl); (case hg => rfl); (case hr => first | (go_simp; done) | (go_simp; rfl)); intro gb132 hg w8 hbox hb; have n0_ := bs HB hb; have n1_ := Aside0.mk (hbox); have n2_ := bz hg; have n3_ := bz hg; clear HB; have HB := n0_; have BK132 := n1_; have GW132 := n2_; have GE132 := n3_; clear n0_ n1_ n2_ n3_; clear hb hbox hg; have hcz9_0 : ∀ i, w8.cell? ⟨gb132, i, none⟩ = _ := blk_cell BK132.out; have hfz9_0 := blk_frozen BK132.out) | ((with_reducible refine gate_callee (f := 39) rfl ?_); refine goesL_ (some 4) rfl rfl Try.func39 (by kernel_rfl) rfl #[.agg #[.int .i64 a0_0, .int .i64 a0_1, .slice A0_2 l0_2.length c0_2, .slice A0_3 l0_3.length c0_3]] rfl (by (try simp only [List.map_toArray, List.map_cons, List.map_nil]); first | done | rfl | (simp only [List.length_drop, List.length_take]; rfl)) ?_; (with_reducible refine (spec_SeqOk.calls k a0_0 a0_1 _ _ l0_2 _ _ l0_3 false _ ?side1 ?side2 ?side3 ?side4 A2.out).mono ?_); (case side1 => repeat (first | exact (Kd.C_below HR0_2.out HB.out) | (with_reducible refine Kd.C_alloc ?_ _) | (with_reducible refine Kd.C_drewN ?_ _) | (with_reducible refine Kd.C_drew ?_))); (case side2 => exact HC0_2.out); (case side3 => repeat (first | exact (Kd.C_below HR0_3.out HB.out) | (with_reducible refine Kd.C_alloc ?_ _) | (with_reducible refine Kd.C_drewN ?_ _) | (with_reducible refine Kd.C_drew ?_))); (case side4 => exact HC0_3.out); rintro e w10 ⟨rfl, hb⟩; refine ⟨_, rfl, ?_⟩; have n0_ := Aside0.mk (blk_below (bx BK132.out) hb); have n1_ := bs HB hb; clear BK132; clear HB; have BK132 := n0_; have HB := n1_; clear n0_ n1_; (try clear hb); (try clear hb2); (try clear hk); (try clear hi)))
    go_ret
    exact ⟨rr, bl⟩

/-! ### spec_ParOk: function 27 -/
def spec_ParOk.f (a0_0 : Int) (a0_1 : Bool) (a0_2 : Bool) (a0_3 : Bool) : Option (Bool) := (spec_l01In.f a0_0 0 40).bind fun t135 => (if t135 = true then (if a0_1 = true then (some (!a0_2)) else (some (!false))) else (some false))
set_option maxHeartbeats 8000000 in
set_option maxRecDepth 100000 in
theorem spec_ParOk.calls (a0_0 : Int) (a0_1 : Bool) (a0_2 : Bool) (a0_3 : Bool) (r : Bool) (w : World) (h : spec_ParOk.f a0_0 a0_1 a0_2 a0_3 = some r) :
    Calls Try.prog 27 #[.agg #[.int .i64 a0_0, .bool a0_1, .bool a0_2, .bool a0_3]] w fun e w' => e = .returned (.bool r) ∧ Below w.heap.size w w' := by
  have hu31 := Try.underlying31
  have HB := Aside0.mk (Below.refl w.heap.size w)
  have H : ((spec_l01In.f a0_0 0 40).bind fun t135 => (if t135 = true then (if a0_1 = true then (some (!a0_2)) else (some (!false))) else (some false))) = some r := h
  clear h
  replace H := Option.bind_eq_some_iff.mp H
  obtain ⟨t135, A20, H⟩ := H
  (try dsimp only at H)
  have A2 := Aside0.mk A20
  clear A20
  by_cases c3 : t135 = true
  · subst c3
    rw [if_pos rfl] at H
    by_cases c4 : a0_1 = true
    · subst c4
      rw [if_pos rfl] at H
      obtain rfl := Option.some.inj H
      go_enter Try.func27, Try.ntmps27
      go_wp2_with (first | ((with_reducible refine gate_dst (N := 1) rfl ?_); refine box_event ?hg (N := 1) ?hd (cs := #[.int .i64 a0_0, .bool true, .bool a0_2, .bool a0_3]) (t := 31) ?hr ?_; (case hd => rfl); (case hg => rfl); (case hr => first | (go_simp; done) | (go_simp; rfl)); intro gb134 hg w5 hbox hb; have n0_ := bs HB hb; have n1_ := Aside0.mk (hbox); have n2_ := bz hg; have n3_ := bz hg; clear HB; have HB := n0_; have BK134 := n1_; have GW134 := n2_; have GE134 := n3_; clear n0_ n1_ n2_ n3_; clear hb hbox hg; have hcz6_0 : ∀ i, w5.cell? ⟨gb134, i, none⟩ = _ := blk_cell BK134.out; have hfz6_0 := blk_frozen BK134.out) | ((with_reducible refine gate_callee (f := 38) rfl ?_); refine goesL_ (some 5) rfl rfl Try.func38 (by kernel_rfl) rfl #[.int .i64 a0_0, .int .i64 0, .int .i64 40] rfl (by (try simp only [List.map_toArray, List.map_cons, List.map_nil]); first | done | rfl | (simp only [List.length_drop, List.length_take]; rfl)) ?_; (with_reducible refine (spec_l01In.calls a0_0 0 40 true _ A2.out).mono ?_); rintro e w' ⟨rfl, ⟨nd, rfl⟩⟩; refine ⟨_, rfl, ?_⟩))
      go_ret
      exact ⟨rr, bl⟩
    · replace c4 := Bool.eq_false_iff.mpr c4
      subst c4
      have H1 : (some (!false)) = some r := by rw [if_neg (show ¬ (false = true) by decide)] at H; exact H
      clear H
      have H := H1
      clear H1
      obtain rfl := Option.some.inj H
      go_enter Try.func27, Try.ntmps27
      go_wp2_with (first | ((with_reducible refine gate_dst (N := 1) rfl ?_); refine box_event ?hg (N := 1) ?hd (cs := #[.int .i64 a0_0, .bool false, .bool a0_2, .bool a0_3]) (t := 31) ?hr ?_; (case hd => rfl); (case hg => rfl); (case hr => first | (go_simp; done) | (go_simp; rfl)); intro gb134 hg w7 hbox hb; have n0_ := bs HB hb; have n1_ := Aside0.mk (hbox); have n2_ := bz hg; have n3_ := bz hg; clear HB; have HB := n0_; have BK134 := n1_; have GW134 := n2_; have GE134 := n3_; clear n0_ n1_ n2_ n3_; clear hb hbox hg; have hcz8_0 : ∀ i, w7.cell? ⟨gb134, i, none⟩ = _ := blk_cell BK134.out; have hfz8_0 := blk_frozen BK134.out) | ((with_reducible refine gate_callee (f := 38) rfl ?_); refine goesL_ (some 5) rfl rfl Try.func38 (by kernel_rfl) rfl #[.int .i64 a0_0, .int .i64 0, .int .i64 40] rfl (by (try simp only [List.map_toArray, List.map_cons, List.map_nil]); first | done | rfl | (simp only [List.length_drop, List.length_take]; rfl)) ?_; (with_reducible refine (spec_l01In.calls a0_0 0 40 true _ A2.out).mono ?_); rintro e w' ⟨rfl, ⟨nd, rfl⟩⟩; refine ⟨_, rfl, ?_⟩))
      go_ret
      exact ⟨rr, bl⟩
  · replace c3 := Bool.eq_false_iff.mpr c3
    subst c3
    have H1 : (some false) = some r := by rw [if_neg (show ¬ (false = true) by decide)] at H; exact H
    clear H
    have H := H1
    clear H1
    obtain rfl := Option.some.inj H
    go_enter Try.func27, Try.ntmps27
    go_wp2_with (first | ((with_reducible refine gate_dst (N := 1) rfl ?_); refine box_event ?hg (N := 1) ?hd (cs := #[.int .i64 a0_0, .bool a0_1, .bool a0_2, .bool a0_3]) (t := 31) ?hr ?_; (case hd => rfl); (case hg => rfl); (case hr => first | (go_simp; done) | (go_simp; rfl)); intro gb134 hg w9 hbox hb; have n0_ := bs HB hb; have n1_ := Aside0.mk (hbox); have n2_ := bz hg; have n3_ := bz hg; clear HB; have HB := n0_; have BK134 := n1_; have GW134 := n2_; have GE134 := n3_; clear n0_ n1_ n2_ n3_; clear hb hbox hg; have hcz10_0 : ∀ i, w9.cell? ⟨gb134, i, none⟩ = _ := blk_cell BK134.out; have hfz10_0 := blk_frozen BK134.out) | ((with_reducible refine gate_callee (f := 38) rfl ?_); refine goesL_ (some 5) rfl rfl Try.func38 (by kernel_rfl) rfl #[.int .i64 a0_0, .int .i64 0, .int .i64 40] rfl (by (try simp only [List.map_toArray, List.map_cons, List.map_nil]); first | done | rfl | (simp only [List.length_drop, List.length_take]; rfl)) ?_; (with_reducible refine (spec_l01In.calls a0_0 0 40 false _ A2.out).mono ?_); rintro e w' ⟨rfl, ⟨nd, rfl⟩⟩; refine ⟨_, rfl, ?_⟩))
    go_ret
    exact ⟨rr, bl⟩

/-! ### spec_AdmitOk: function 13 -/
def spec_AdmitOk.j0 : Nat → Bool → Bool → Bool → Int → Int → List Int → List Int → Int → Bool → Bool → Bool → Int → Int → Int → Option (Bool)
  | 0, _, _, _, _, _, _, _, _, _, _, _, _, _, _ => none
  | k + 1, x12, x137000, x137001, x137002, x137003, x137004, x137005, x137006, x137007, x137008, x137009, x137010, x137011, x137012 => if x12 = true then (some false) else (if x137000 = true then ((spec_TilesOf.f k x137002 x137003 x137004 x137005).bind fun t139 => (if t139 = 1 then ((spec_ParOk.f x137006 x137007 x137008 x137009).bind fun t140 => (if t140 = true then (if x137010 ≥ 0 then (if 0 ≤ (IntKind.u64.wrap (x137003)) then (some (decide (x137010 < (shl .i64 1 (IntKind.u64.wrap (x137003)))))) else (none)) else (some false)) else (some false))) else (some false))) else (if x137001 = true then (some false) else (if x137002 = 0 then (if x137003 = 0 then (if (x137004.length : Int) = 0 then (if (x137005.length : Int) = 0 then (if (x137006 == 0 && (!x137007 && (!x137008 && (!x137009)))) = true then (some (x137010 == 0)) else (some false)) else (some false)) else (some false)) else (some false)) else (some false))))
def spec_AdmitOk.f (k : Nat) (a0_0 : Bool) (a0_1 : Bool) (a0_2 : Int) (a0_3 : Int) (l0_4 : List Int) (l0_5 : List Int) (a0_6 : Int) (a0_7 : Bool) (a0_8 : Bool) (a0_9 : Bool) (a0_10 : Int) (a0_11 : Int) (a0_12 : Int) : Option (Bool) := (spec_l23Count.f a0_11).bind fun t137 => (if t137 = true then ((spec_l23Count.f a0_12).bind fun t138 => (spec_AdmitOk.j0 k (!t138) a0_0 a0_1 a0_2 a0_3 l0_4 l0_5 a0_6 a0_7 a0_8 a0_9 a0_10 a0_11 a0_12)) else (spec_AdmitOk.j0 k true a0_0 a0_1 a0_2 a0_3 l0_4 l0_5 a0_6 a0_7 a0_8 a0_9 a0_10 a0_11 a0_12))
theorem spec_AdmitOk.mono_l : ∀ k, (∀ y0 y1 y2 y3 y4 y5 y6 y7 y8 y9 y10 y11 y12 y13, LeO (spec_AdmitOk.j0 k y0 y1 y2 y3 y4 y5 y6 y7 y8 y9 y10 y11 y12 y13) (spec_AdmitOk.j0 (k + 1) y0 y1 y2 y3 y4 y5 y6 y7 y8 y9 y10 y11 y12 y13))
  | 0 => fun _ _ _ _ _ _ _ _ _ _ _ _ _ _ r h => by simp [spec_AdmitOk.j0] at h
  | k + 1 => by
    have ih0 := spec_AdmitOk.mono_l k
    · intro y0 y1 y2 y3 y4 y5 y6 y7 y8 y9 y10 y11 y12 y13
      unfold spec_AdmitOk.j0
      repeat' first
      | (with_reducible exact ih0 _ _ _ _ _ _ _ _ _ _ _ _ _ _)
      | (with_reducible exact spec_TilesOf.mono _ _ _ _ _)
      | (with_reducible exact LeO.refl _)
      | (with_reducible exact LeO.none _)
      | (with_reducible refine LeO.ite ?_ ?_)
      | (with_reducible refine LeO.bind ?_ (fun _ => ?_))
      | exact ih0 _ _ _ _ _ _ _ _ _ _ _ _ _ _
      | exact spec_TilesOf.mono _ _ _ _ _
      | exact LeO.none _
      | refine LeO.ite ?_ ?_
      | refine LeO.bind ?_ (fun _ => ?_)
theorem spec_AdmitOk.mono : ∀ a0 a1 a2 a3 a4 a5 a6 a7 a8 a9 a10 a11 a12 k, LeO (spec_AdmitOk.f k a0 a1 a2 a3 a4 a5 a6 a7 a8 a9 a10 a11 a12) (spec_AdmitOk.f (k + 1) a0 a1 a2 a3 a4 a5 a6 a7 a8 a9 a10 a11 a12) := by
  intro a0 a1 a2 a3 a4 a5 a6 a7 a8 a9 a10 a11 a12 k
  have ih0 := spec_AdmitOk.mono_l k
  unfold spec_AdmitOk.f
  repeat' first
      | (with_reducible exact ih0 _ _ _ _ _ _ _ _ _ _ _ _ _ _)
      | (with_reducible exact spec_TilesOf.mono _ _ _ _ _)
      | (with_reducible exact LeO.refl _)
      | (with_reducible exact LeO.none _)
      | (with_reducible refine LeO.ite ?_ ?_)
      | (with_reducible refine LeO.bind ?_ (fun _ => ?_))
      | exact ih0 _ _ _ _ _ _ _ _ _ _ _ _ _ _
      | exact spec_TilesOf.mono _ _ _ _ _
      | exact LeO.none _
      | refine LeO.ite ?_ ?_
      | refine LeO.bind ?_ (fun _ => ?_)
set_option maxHeartbeats 8000000 in
set_option maxRecDepth 100000 in
theorem spec_AdmitOk.calls (k : Nat) (a0_0 : Bool) (a0_1 : Bool) (a0_2 : Int) (a0_3 : Int) (A0_4 : Option Addr) (c0_4 : Nat) (l0_4 : List Int) (A0_5 : Option Addr) (c0_5 : Nat) (l0_5 : List Int) (a0_6 : Int) (a0_7 : Bool) (a0_8 : Bool) (a0_9 : Bool) (a0_10 : Int) (a0_11 : Int) (a0_12 : Int) (r : Bool) (w : World) (hr0_4 : Kd.C (Kd.int .i64) w A0_4 l0_4.length l0_4) (hc0_4 : l0_4.length ≤ c0_4) (hr0_5 : Kd.C (Kd.int .i64) w A0_5 l0_5.length l0_5) (hc0_5 : l0_5.length ≤ c0_5) (h : spec_AdmitOk.f k a0_0 a0_1 a0_2 a0_3 l0_4 l0_5 a0_6 a0_7 a0_8 a0_9 a0_10 a0_11 a0_12 = some r) :
    Calls Try.prog 13 #[.agg #[.bool a0_0, .bool a0_1, .int .i64 a0_2, .int .i64 a0_3, .slice A0_4 l0_4.length c0_4, .slice A0_5 l0_5.length c0_5, .int .i64 a0_6, .bool a0_7, .bool a0_8, .bool a0_9, .int .i64 a0_10, .int .i64 a0_11, .int .i64 a0_12]] w fun e w' => e = .returned (.bool r) ∧ Below w.heap.size w w' := by
  have hu33 := Try.underlying33
  have hu31 := Try.underlying31
  have hu30 := Try.underlying30
  have HR0_4 := Aside0.mk hr0_4
  have HC0_4 := Aside0.mk hc0_4
  clear hr0_4 hc0_4
  have HR0_5 := Aside0.mk hr0_5
  have HC0_5 := Aside0.mk hc0_5
  clear hr0_5 hc0_5
  have HB := Aside0.mk (Below.refl w.heap.size w)
  have H : ((spec_l23Count.f a0_11).bind fun t137 => (if t137 = true then ((spec_l23Count.f a0_12).bind fun t138 => (spec_AdmitOk.j0 k (!t138) a0_0 a0_1 a0_2 a0_3 l0_4 l0_5 a0_6 a0_7 a0_8 a0_9 a0_10 a0_11 a0_12)) else (spec_AdmitOk.j0 k true a0_0 a0_1 a0_2 a0_3 l0_4 l0_5 a0_6 a0_7 a0_8 a0_9 a0_10 a0_11 a0_12))) = some r := h
  clear h
  have HC2 := Aside0.mk H
  clear H
  go_enter Try.func13, Try.ntmps13
  go_upto_region 1 with (first | ((with_reducible refine gate_dst (N := 1) rfl ?_); (try (refine gate_guard (by rfl) ?_; dsimp only)); refine box_event ?hg (N := 1) ?hd (cs := #[.bool a0_0, .bool a0_1, .int .i64 a0_2, .int .i64 a0_3, .slice A0_4 l0_4.length c0_4, .slice A0_5 l0_5.length c0_5, .int .i64 a0_6, .bool a0_7, .bool a0_8, .bool a0_9, .int .i64 a0_10, .int .i64 a0_11, .int .i64 a0_12]) (t := 33) ?hr ?_; (case hd => rfl); (case hg => rfl); (case hr => first | (go_simp; done) | (go_simp; rfl)); intro gb136 hg w3 hbox hb; have n0_ := bs HB hb; have n1_ := Aside0.mk (hbox); have n2_ := bz hg; have n3_ := bz hg; clear HB; have HB := n0_; have BK136 := n1_; have GW136 := n2_; have GE136 := n3_; clear n0_ n1_ n2_ n3_; clear hb hbox hg))
  (try simp only [Act.put, List.setIfInBounds_toArray, List.set_cons_zero, List.set_cons_succ])
  go_cut [12] (fun v12 wc => ∃ (kq : Nat) (x12_1 : Bool), v12 = .bool x12_1 ∧ Aside0 (spec_AdmitOk.j0 kq x12_1 a0_0 a0_1 a0_2 a0_3 l0_4 l0_5 a0_6 a0_7 a0_8 a0_9 a0_10 a0_11 a0_12 = some r) ∧ Aside0 (kq ≤ k) ∧ Aside0 (wc.heap[gb136]? = some (.cells #[.bool a0_0, .bool a0_1, .int .i64 a0_2, .int .i64 a0_3, (.slice A0_4 l0_4.length c0_4), (.slice A0_5 l0_5.length c0_5), .int .i64 a0_6, .bool a0_7, .bool a0_8, .bool a0_9, .int .i64 a0_10, .int .i64 a0_11, .int .i64 a0_12] 33 (0, 0))) ∧ Aside0 (Below w.heap.size w wc))
  case first =>
    have H := HC2.out
    clear HC2
    replace H := Option.bind_eq_some_iff.mp H
    obtain ⟨t137, A40, H⟩ := H
    (try dsimp only at H)
    have A4 := Aside0.mk A40
    clear A40
    by_cases c5 : t137 = true
    · subst c5
      rw [if_pos rfl] at H
      replace H := Option.bind_eq_some_iff.mp H
      obtain ⟨t138, A60, H⟩ := H
      (try dsimp only at H)
      have A6 := Aside0.mk A60
      clear A60
      have H' := Aside0.mk H
      clear H
      have hcz7_0 : ∀ i, w3.cell? ⟨gb136, i, none⟩ = _ := blk_cell BK136.out
      have hcz7_1 : w3.cell? ⟨gb136, 1, none⟩ = some (.bool a0_1) := (blk_cell BK136.out 1).trans rfl
      have hcz7_2 : w3.cell? ⟨gb136, 2, none⟩ = some (.int .i64 a0_2) := (blk_cell BK136.out 2).trans rfl
      have hcz7_3 : w3.cell? ⟨gb136, 3, none⟩ = some (.int .i64 a0_3) := (blk_cell BK136.out 3).trans rfl
      have hcz7_4 : w3.cell? ⟨gb136, 4, none⟩ = some (.slice A0_4 l0_4.length c0_4) := (blk_cell BK136.out 4).trans rfl
      have hcz7_5 : w3.cell? ⟨gb136, 5, none⟩ = some (.slice A0_5 l0_5.length c0_5) := (blk_cell BK136.out 5).trans rfl
      have hcz7_6 : w3.cell? ⟨gb136, 6, none⟩ = some (.int .i64 a0_6) := (blk_cell BK136.out 6).trans rfl
      have hcz7_7 : w3.cell? ⟨gb136, 7, none⟩ = some (.bool a0_7) := (blk_cell BK136.out 7).trans rfl
      have hcz7_8 : w3.cell? ⟨gb136, 8, none⟩ = some (.bool a0_8) := (blk_cell BK136.out 8).trans rfl
      have hcz7_9 : w3.cell? ⟨gb136, 9, none⟩ = some (.bool a0_9) := (blk_cell BK136.out 9).trans rfl
      have hcz7_10 : w3.cell? ⟨gb136, 10, none⟩ = some (.int .i64 a0_10) := (blk_cell BK136.out 10).trans rfl
      have hcz7_11 : w3.cell? ⟨gb136, 11, none⟩ = some (.int .i64 a0_11) := (blk_cell BK136.out 11).trans rfl
      have hcz7_12 : w3.cell? ⟨gb136, 12, none⟩ = some (.int .i64 a0_12) := (blk_cell BK136.out 12).trans rfl
      have hfz7_0 := blk_frozen BK136.out
      have hfz7_1 := blk_frozen BK136.out 1
      have hfz7_2 := blk_frozen BK136.out 2
      have hfz7_3 := blk_frozen BK136.out 3
      have hfz7_4 := blk_frozen BK136.out 4
      have hfz7_5 := blk_frozen BK136.out 5
      have hfz7_6 := blk_frozen BK136.out 6
      have hfz7_7 := blk_frozen BK136.out 7
      have hfz7_8 := blk_frozen BK136.out 8
      have hfz7_9 := blk_frozen BK136.out 9
      have hfz7_10 := blk_frozen BK136.out 10
      have hfz7_11 := blk_frozen BK136.out 11
      have hfz7_12 := blk_frozen BK136.out 12
      go_wp2_with (first | ((with_reducible refine gate_load (t := 33) rfl ?_); refine load_all (g := gb136) (ty := 33) rfl rfl rfl (bx BK136.out) (by kernel_rfl) (by kernel_rfl) ?_; simp only [Act.put, List.setIfInBounds_toArray, List.set_cons_zero, List.set_cons_succ]) | ((with_reducible refine gate_callee (f := 25) rfl ?_); refine goesL_ (some 5) rfl rfl Try.func25 (by kernel_rfl) rfl #[.int .i64 a0_11] rfl (by (try simp only [List.map_toArray, List.map_cons, List.map_nil]); first | done | rfl | (simp only [List.length_drop, List.length_take]; rfl)) ?_; (with_reducible refine (spec_l23Count.calls a0_11 true _ A4.out).mono ?_); rintro e w' ⟨rfl, ⟨nd, rfl⟩⟩; refine ⟨_, rfl, ?_⟩) | (go_at_call 25; (with_reducible refine (spec_l23Count.calls a0_12 t138 _ A6.out).mono ?_); rintro e w' ⟨rfl, ⟨nd, rfl⟩⟩))
      go_meet
      case rel => exact ⟨_, (!t138), (by first | rfl | (simp; done) | (simp [*]; done)), H', ⟨by first | omega | exact Nat.le_refl _⟩, ⟨by (with_reducible repeat (first | refine blk_drewN ?_ _ | refine blk_drew ?_ | refine blk_alloc ?_ _)); exact BK136.out⟩, ⟨bl⟩⟩
    · replace c5 := Bool.eq_false_iff.mpr c5
      subst c5
      have H1 : (spec_AdmitOk.j0 k true a0_0 a0_1 a0_2 a0_3 l0_4 l0_5 a0_6 a0_7 a0_8 a0_9 a0_10 a0_11 a0_12) = some r := by rw [if_neg (show ¬ (false = true) by decide)] at H; exact H
      clear H
      have H := H1
      clear H1
      have H' := Aside0.mk H
      clear H
      have hcz8_0 : ∀ i, w3.cell? ⟨gb136, i, none⟩ = _ := blk_cell BK136.out
      have hcz8_1 : w3.cell? ⟨gb136, 1, none⟩ = some (.bool a0_1) := (blk_cell BK136.out 1).trans rfl
      have hcz8_2 : w3.cell? ⟨gb136, 2, none⟩ = some (.int .i64 a0_2) := (blk_cell BK136.out 2).trans rfl
      have hcz8_3 : w3.cell? ⟨gb136, 3, none⟩ = some (.int .i64 a0_3) := (blk_cell BK136.out 3).trans rfl
      have hcz8_4 : w3.cell? ⟨gb136, 4, none⟩ = some (.slice A0_4 l0_4.length c0_4) := (blk_cell BK136.out 4).trans rfl
      have hcz8_5 : w3.cell? ⟨gb136, 5, none⟩ = some (.slice A0_5 l0_5.length c0_5) := (blk_cell BK136.out 5).trans rfl
      have hcz8_6 : w3.cell? ⟨gb136, 6, none⟩ = some (.int .i64 a0_6) := (blk_cell BK136.out 6).trans rfl
      have hcz8_7 : w3.cell? ⟨gb136, 7, none⟩ = some (.bool a0_7) := (blk_cell BK136.out 7).trans rfl
      have hcz8_8 : w3.cell? ⟨gb136, 8, none⟩ = some (.bool a0_8) := (blk_cell BK136.out 8).trans rfl
      have hcz8_9 : w3.cell? ⟨gb136, 9, none⟩ = some (.bool a0_9) := (blk_cell BK136.out 9).trans rfl
      have hcz8_10 : w3.cell? ⟨gb136, 10, none⟩ = some (.int .i64 a0_10) := (blk_cell BK136.out 10).trans rfl
      have hcz8_11 : w3.cell? ⟨gb136, 11, none⟩ = some (.int .i64 a0_11) := (blk_cell BK136.out 11).trans rfl
      have hcz8_12 : w3.cell? ⟨gb136, 12, none⟩ = some (.int .i64 a0_12) := (blk_cell BK136.out 12).trans rfl
      have hfz8_0 := blk_frozen BK136.out
      have hfz8_1 := blk_frozen BK136.out 1
      have hfz8_2 := blk_frozen BK136.out 2
      have hfz8_3 := blk_frozen BK136.out 3
      have hfz8_4 := blk_frozen BK136.out 4
      have hfz8_5 := blk_frozen BK136.out 5
      have hfz8_6 := blk_frozen BK136.out 6
      have hfz8_7 := blk_frozen BK136.out 7
      have hfz8_8 := blk_frozen BK136.out 8
      have hfz8_9 := blk_frozen BK136.out 9
      have hfz8_10 := blk_frozen BK136.out 10
      have hfz8_11 := blk_frozen BK136.out 11
      have hfz8_12 := blk_frozen BK136.out 12
      go_wp2_with (first | ((with_reducible refine gate_load (t := 33) rfl ?_); refine load_all (g := gb136) (ty := 33) rfl rfl rfl (bx BK136.out) (by kernel_rfl) (by kernel_rfl) ?_; simp only [Act.put, List.setIfInBounds_toArray, List.set_cons_zero, List.set_cons_succ]) | ((with_reducible refine gate_callee (f := 25) rfl ?_); refine goesL_ (some 5) rfl rfl Try.func25 (by kernel_rfl) rfl #[.int .i64 a0_11] rfl (by (try simp only [List.map_toArray, List.map_cons, List.map_nil]); first | done | rfl | (simp only [List.length_drop, List.length_take]; rfl)) ?_; (with_reducible refine (spec_l23Count.calls a0_11 false _ A4.out).mono ?_); rintro e w' ⟨rfl, ⟨nd, rfl⟩⟩; refine ⟨_, rfl, ?_⟩))
      go_meet
      case rel => exact ⟨_, (true), (by first | rfl | (simp; done) | (simp [*]; done)), H', ⟨by first | omega | exact Nat.le_refl _⟩, ⟨by (with_reducible repeat (first | refine blk_drewN ?_ _ | refine blk_drew ?_ | refine blk_alloc ?_ _)); exact BK136.out⟩, ⟨bl⟩⟩
  case rest =>
    clear HC2
    (try clear c1); (try clear c2); (try clear p2); (try clear c5); (try clear hcz7_0); (try clear hcz7_1); (try clear hcz7_10); (try clear hcz7_11); (try clear hcz7_12); (try clear hcz7_2); (try clear hcz7_3); (try clear hcz7_4); (try clear hcz7_5); (try clear hcz7_6); (try clear hcz7_7); (try clear hcz7_8); (try clear hcz7_9); (try clear hcz8_0); (try clear hcz8_1); (try clear hcz8_10); (try clear hcz8_11); (try clear hcz8_12); (try clear hcz8_2); (try clear hcz8_3); (try clear hcz8_4); (try clear hcz8_5); (try clear hcz8_6); (try clear hcz8_7); (try clear hcz8_8); (try clear hcz8_9); (try clear hfz7_0); (try clear hfz7_1); (try clear hfz7_10); (try clear hfz7_11); (try clear hfz7_12); (try clear hfz7_2); (try clear hfz7_3); (try clear hfz7_4); (try clear hfz7_5); (try clear hfz7_6); (try clear hfz7_7); (try clear hfz7_8); (try clear hfz7_9); (try clear hfz8_0); (try clear hfz8_1); (try clear hfz8_10); (try clear hfz8_11); (try clear hfz8_12); (try clear hfz8_2); (try clear hfz8_3); (try clear hfz8_4); (try clear hfz8_5); (try clear hfz8_6); (try clear hfz8_7); (try clear hfz8_8); (try clear hfz8_9)
    obtain ⟨kq, x12_1, rfl, HA, HJ1, BK136, HB⟩ := hcut
    cases kq with
    | zero => exact absurd HA.out (by simp [spec_AdmitOk.j0])
    | succ kj1 =>
      have H := HA.out
      clear HA
      simp only [spec_AdmitOk.j0] at H
      by_cases c9 : x12_1 = true
      · subst c9
        rw [if_pos rfl] at H
        obtain rfl := Option.some.inj H
        go_wp2
        go_ret
        exact ⟨rr, bl⟩
      · replace c9 := Bool.eq_false_iff.mpr c9
        subst c9
        have H1 : (if a0_0 = true then ((spec_TilesOf.f kj1 a0_2 a0_3 l0_4 l0_5).bind fun t139 => (if t139 = 1 then ((spec_ParOk.f a0_6 a0_7 a0_8 a0_9).bind fun t140 => (if t140 = true then (if a0_10 ≥ 0 then (if 0 ≤ (IntKind.u64.wrap (a0_3)) then (some (decide (a0_10 < (shl .i64 1 (IntKind.u64.wrap (a0_3)))))) else (none)) else (some false)) else (some false))) else (some false))) else (if a0_1 = true then (some false) else (if a0_2 = 0 then (if a0_3 = 0 then (if (l0_4.length : Int) = 0 then (if (l0_5.length : Int) = 0 then (if (a0_6 == 0 && (!a0_7 && (!a0_8 && (!a0_9)))) = true then (some (a0_10 == 0)) else (some false)) else (some false)) else (some false)) else (some false)) else (some false)))) = some r := by rw [if_neg (show ¬ (false = true) by decide)] at H; exact H
        clear H
        have H := H1
        clear H1
        by_cases c10 : a0_0 = true
        · subst c10
          rw [if_pos rfl] at H
          replace H := Option.bind_eq_some_iff.mp H
          obtain ⟨t139, A110, H⟩ := H
          (try dsimp only at H)
          have A11 := Aside0.mk A110
          clear A110
          by_cases c12 : t139 = 1
          · rw [if_pos c12] at H
            have c12b0 : (t139 == 1) = true := beq_iff_eq.mpr c12
            have c12b1 : (t139 != 1) = false := bne_eq_false_iff_eq.mpr c12
            clear c12
            replace H := Option.bind_eq_some_iff.mp H
            obtain ⟨t140, A130, H⟩ := H
            (try dsimp only at H)
            have A13 := Aside0.mk A130
            clear A130
            by_cases c14 : t140 = true
            · subst c14
              rw [if_pos rfl] at H
              by_cases c15 : a0_10 ≥ 0
              · rw [if_pos c15] at H
                have c15b0 : decide (0 ≤ a0_10) = true := decide_eq_true c15
                clear c15
                obtain ⟨ji16, hji16⟩ : ∃ j_ : Int, (IntKind.u64.wrap (a0_3)) = j_ := ⟨_, rfl⟩
                replace H : (if 0 ≤ (ji16) then (some (decide (a0_10 < (shl .i64 1 (ji16))))) else (none)) = some r := by first | (rw [hji16] at H; exact H) | (simp only [hji16] at H ⊢; exact H)
                (try rw [hji16] at A11)
                (try rw [hji16] at A13)
                by_cases c17 : 0 ≤ (ji16)
                · rw [if_pos c17] at H
                  have c17b0 := eq_true c17
                  have c17b1 : decide (0 ≤ (ji16)) = true := decide_eq_true c17
                  clear c17
                  obtain ⟨ji18, hji18⟩ : ∃ j_ : Int, (shl .i64 1 (ji16)) = j_ := ⟨_, rfl⟩
                  replace H : (some (decide (a0_10 < (ji18)))) = some r := by first | (rw [hji18] at H; exact H) | (simp only [hji18] at H ⊢; exact H)
                  (try rw [hji18] at A11)
                  (try rw [hji18] at A13)
                  have hji18_ : (IntKind.i64.wrap (1 * 2 ^ min (ji16).toNat 64)) = ji18 := hji18
                  have hji18z : (ji16) ≤ 64 → (IntKind.i64.wrap (1 * 2 ^ (ji16).toNat)) = ji18 := shl_small hji18
                  have hji18u : (IntKind.i64.wrap (2 ^ min (ji16).toNat 64)) = ji18 := by have h_ := hji18_; rw [Int.one_mul] at h_; exact h_
                  have hji18v : (ji16) ≤ 64 → (IntKind.i64.wrap (2 ^ (ji16).toNat)) = ji18 := fun hle_ => by have h_ := hji18z hle_; rw [Int.one_mul] at h_; exact h_
                  have hji18y : (wrap64 (1 * 2 ^ min (ji16).toNat 64)) = ji18 := (i64_w _).symm.trans hji18_
                  have hji18x : (ji16) ≤ 64 → (wrap64 (1 * 2 ^ (ji16).toNat)) = ji18 := fun h_ => (i64_w _).symm.trans (hji18z h_)
                  obtain rfl := Option.some.inj H
                  have hcz19_0 : ∀ i, wc.cell? ⟨gb136, i, none⟩ = _ := blk_cell BK136.out
                  have hcz19_1 : wc.cell? ⟨gb136, 1, none⟩ = some (.bool a0_1) := (blk_cell BK136.out 1).trans rfl
                  have hcz19_2 : wc.cell? ⟨gb136, 2, none⟩ = some (.int .i64 a0_2) := (blk_cell BK136.out 2).trans rfl
                  have hcz19_3 : wc.cell? ⟨gb136, 3, none⟩ = some (.int .i64 a0_3) := (blk_cell BK136.out 3).trans rfl
                  have hcz19_4 : wc.cell? ⟨gb136, 4, none⟩ = some (.slice A0_4 l0_4.length c0_4) := (blk_cell BK136.out 4).trans rfl
                  have hcz19_5 : wc.cell? ⟨gb136, 5, none⟩ = some (.slice A0_5 l0_5.length c0_5) := (blk_cell BK136.out 5).trans rfl
                  have hcz19_6 : wc.cell? ⟨gb136, 6, none⟩ = some (.int .i64 a0_6) := (blk_cell BK136.out 6).trans rfl
                  have hcz19_7 : wc.cell? ⟨gb136, 7, none⟩ = some (.bool a0_7) := (blk_cell BK136.out 7).trans rfl
                  have hcz19_8 : wc.cell? ⟨gb136, 8, none⟩ = some (.bool a0_8) := (blk_cell BK136.out 8).trans rfl
                  have hcz19_9 : wc.cell? ⟨gb136, 9, none⟩ = some (.bool a0_9) := (blk_cell BK136.out 9).trans rfl
                  have hcz19_10 : wc.cell? ⟨gb136, 10, none⟩ = some (.int .i64 a0_10) := (blk_cell BK136.out 10).trans rfl
                  have hcz19_11 : wc.cell? ⟨gb136, 11, none⟩ = some (.int .i64 a0_11) := (blk_cell BK136.out 11).trans rfl
                  have hcz19_12 : wc.cell? ⟨gb136, 12, none⟩ = some (.int .i64 a0_12) := (blk_cell BK136.out 12).trans rfl
                  have hfz19_0 := blk_frozen BK136.out
                  have hfz19_1 := blk_frozen BK136.out 1
                  have hfz19_2 := blk_frozen BK136.out 2
                  have hfz19_3 := blk_frozen BK136.out 3
                  have hfz19_4 := blk_frozen BK136.out 4
                  have hfz19_5 := blk_frozen BK136.out 5
                  have hfz19_6 := blk_frozen BK136.out 6
                  have hfz19_7 := blk_frozen BK136.out 7
                  have hfz19_8 := blk_frozen BK136.out 8
                  have hfz19_9 := blk_frozen BK136.out 9
                  have hfz19_10 := blk_frozen BK136.out 10
                  have hfz19_11 := blk_frozen BK136.out 11
                  have hfz19_12 := blk_frozen BK136.out 12
                  go_wp2_with (first | ((with_reducible refine gate_load (t := 33) rfl ?_); refine load_all (g := gb136) (ty := 33) rfl rfl rfl (bx BK136.out) (by kernel_rfl) (by kernel_rfl) ?_; simp only [Act.put, List.setIfInBounds_toArray, List.set_cons_zero, List.set_cons_succ]) | ((with_reducible refine gate_callee (f := 26) rfl ?_); refine goesL_ (some 58) rfl rfl Try.func26 (by kernel_rfl) rfl #[.agg #[.int .i64 a0_2, .int .i64 a0_3, .slice A0_4 l0_4.length c0_4, .slice A0_5 l0_5.length c0_5]] rfl (by (try simp only [List.map_toArray, List.map_cons, List.map_nil]); first | done | rfl | (simp only [List.length_drop, List.length_take]; rfl)) ?_; (with_reducible refine (spec_TilesOf.calls kj1 a0_2 a0_3 _ _ l0_4 _ _ l0_5 t139 _ ?side1 ?side2 ?side3 ?side4 A11.out).mono ?_); (case side1 => repeat (first | exact (Kd.C_below HR0_4.out HB.out) | (with_reducible refine Kd.C_alloc ?_ _) | (with_reducible refine Kd.C_drewN ?_ _) | (with_reducible refine Kd.C_drew ?_))); (case side2 => exact HC0_4.out); (case side3 => repeat (first | exact (Kd.C_below HR0_5.out HB.out) | (with_reducible refine Kd.C_alloc ?_ _) | (with_reducible refine Kd.C_drewN ?_ _) | (with_reducible refine Kd.C_drew ?_))); (case side4 => exact HC0_5.out); rintro e w20 ⟨rfl, hb⟩; refine ⟨_, rfl, ?_⟩; have n0_ := Aside0.mk (blk_below (bx BK136.out) hb); have n1_ := bs HB hb; clear BK136; clear HB; have BK136 := n0_; have HB := n1_; clear n0_ n1_; (try clear hb); (try clear hb2); (try clear hk); (try clear hi); have hcz21_0 : ∀ i, w20.cell? ⟨gb136, i, none⟩ = _ := blk_cell BK136.out; have hfz21_0 := blk_frozen BK136.out) | (go_at_call 27; (with_reducible refine (spec_ParOk.calls a0_6 a0_7 a0_8 a0_9 true _ A13.out).mono ?_); rintro e w22 ⟨rfl, hb⟩; have n0_ := Aside0.mk (blk_below (bx BK136.out) hb); have n1_ := bs HB hb; clear BK136; clear HB; have BK136 := n0_; have HB := n1_; clear n0_ n1_; (try clear hb); (try clear hb2); (try clear hk); (try clear hi); have hcz23_0 : ∀ i, w22.cell? ⟨gb136, i, none⟩ = _ := blk_cell BK136.out; have hfz23_0 := blk_frozen BK136.out))
                  go_ret
                  exact ⟨by first | rfl | (simp [errW_none, errW_some] <;> rfl) | (simp only [← hji16, ← hji18]; first | rfl | (simp [errW_none, errW_some] <;> rfl)) | (simp [*, errW_none, errW_some] <;> rfl), bl⟩
                · rw [if_neg c17] at H
                  exact absurd H (by simp)
              · rw [if_neg c15] at H
                have c15b0 : decide (0 ≤ a0_10) = false := decide_eq_false c15
                clear c15
                obtain rfl := Option.some.inj H
                have hcz24_0 : ∀ i, wc.cell? ⟨gb136, i, none⟩ = _ := blk_cell BK136.out
                have hcz24_1 : wc.cell? ⟨gb136, 1, none⟩ = some (.bool a0_1) := (blk_cell BK136.out 1).trans rfl
                have hcz24_2 : wc.cell? ⟨gb136, 2, none⟩ = some (.int .i64 a0_2) := (blk_cell BK136.out 2).trans rfl
                have hcz24_3 : wc.cell? ⟨gb136, 3, none⟩ = some (.int .i64 a0_3) := (blk_cell BK136.out 3).trans rfl
                have hcz24_4 : wc.cell? ⟨gb136, 4, none⟩ = some (.slice A0_4 l0_4.length c0_4) := (blk_cell BK136.out 4).trans rfl
                have hcz24_5 : wc.cell? ⟨gb136, 5, none⟩ = some (.slice A0_5 l0_5.length c0_5) := (blk_cell BK136.out 5).trans rfl
                have hcz24_6 : wc.cell? ⟨gb136, 6, none⟩ = some (.int .i64 a0_6) := (blk_cell BK136.out 6).trans rfl
                have hcz24_7 : wc.cell? ⟨gb136, 7, none⟩ = some (.bool a0_7) := (blk_cell BK136.out 7).trans rfl
                have hcz24_8 : wc.cell? ⟨gb136, 8, none⟩ = some (.bool a0_8) := (blk_cell BK136.out 8).trans rfl
                have hcz24_9 : wc.cell? ⟨gb136, 9, none⟩ = some (.bool a0_9) := (blk_cell BK136.out 9).trans rfl
                have hcz24_10 : wc.cell? ⟨gb136, 10, none⟩ = some (.int .i64 a0_10) := (blk_cell BK136.out 10).trans rfl
                have hcz24_11 : wc.cell? ⟨gb136, 11, none⟩ = some (.int .i64 a0_11) := (blk_cell BK136.out 11).trans rfl
                have hcz24_12 : wc.cell? ⟨gb136, 12, none⟩ = some (.int .i64 a0_12) := (blk_cell BK136.out 12).trans rfl
                have hfz24_0 := blk_frozen BK136.out
                have hfz24_1 := blk_frozen BK136.out 1
                have hfz24_2 := blk_frozen BK136.out 2
                have hfz24_3 := blk_frozen BK136.out 3
                have hfz24_4 := blk_frozen BK136.out 4
                have hfz24_5 := blk_frozen BK136.out 5
                have hfz24_6 := blk_frozen BK136.out 6
                have hfz24_7 := blk_frozen BK136.out 7
                have hfz24_8 := blk_frozen BK136.out 8
                have hfz24_9 := blk_frozen BK136.out 9
                have hfz24_10 := blk_frozen BK136.out 10
                have hfz24_11 := blk_frozen BK136.out 11
                have hfz24_12 := blk_frozen BK136.out 12
                go_wp2_with (first | ((with_reducible refine gate_load (t := 33) rfl ?_); refine load_all (g := gb136) (ty := 33) rfl rfl rfl (bx BK136.out) (by kernel_rfl) (by kernel_rfl) ?_; simp only [Act.put, List.setIfInBounds_toArray, List.set_cons_zero, List.set_cons_succ]) | ((with_reducible refine gate_callee (f := 26) rfl ?_); refine goesL_ (some 58) rfl rfl Try.func26 (by kernel_rfl) rfl #[.agg #[.int .i64 a0_2, .int .i64 a0_3, .slice A0_4 l0_4.length c0_4, .slice A0_5 l0_5.length c0_5]] rfl (by (try simp only [List.map_toArray, List.map_cons, List.map_nil]); first | done | rfl | (simp only [List.length_drop, List.length_take]; rfl)) ?_; (with_reducible refine (spec_TilesOf.calls kj1 a0_2 a0_3 _ _ l0_4 _ _ l0_5 t139 _ ?side1 ?side2 ?side3 ?side4 A11.out).mono ?_); (case side1 => repeat (first | exact (Kd.C_below HR0_4.out HB.out) | (with_reducible refine Kd.C_alloc ?_ _) | (with_reducible refine Kd.C_drewN ?_ _) | (with_reducible refine Kd.C_drew ?_))); (case side2 => exact HC0_4.out); (case side3 => repeat (first | exact (Kd.C_below HR0_5.out HB.out) | (with_reducible refine Kd.C_alloc ?_ _) | (with_reducible refine Kd.C_drewN ?_ _) | (with_reducible refine Kd.C_drew ?_))); (case side4 => exact HC0_5.out); rintro e w25 ⟨rfl, hb⟩; refine ⟨_, rfl, ?_⟩; have n0_ := Aside0.mk (blk_below (bx BK136.out) hb); have n1_ := bs HB hb; clear BK136; clear HB; have BK136 := n0_; have HB := n1_; clear n0_ n1_; (try clear hb); (try clear hb2); (try clear hk); (try clear hi); have hcz26_0 : ∀ i, w25.cell? ⟨gb136, i, none⟩ = _ := blk_cell BK136.out; have hfz26_0 := blk_frozen BK136.out) | (go_at_call 27; (with_reducible refine (spec_ParOk.calls a0_6 a0_7 a0_8 a0_9 true _ A13.out).mono ?_); rintro e w27 ⟨rfl, hb⟩; have n0_ := Aside0.mk (blk_below (bx BK136.out) hb); have n1_ := bs HB hb; clear BK136; clear HB; have BK136 := n0_; have HB := n1_; clear n0_ n1_; (try clear hb); (try clear hb2); (try clear hk); (try clear hi); have hcz28_0 : ∀ i, w27.cell? ⟨gb136, i, none⟩ = _ := blk_cell BK136.out; have hfz28_0 := blk_frozen BK136.out))
                go_ret
                exact ⟨rr, bl⟩
            · replace c14 := Bool.eq_false_iff.mpr c14
              subst c14
              have H1 : (some false) = some r := by rw [if_neg (show ¬ (false = true) by decide)] at H; exact H
              clear H
              have H := H1
              clear H1
              obtain rfl := Option.some.inj H
              have hcz29_0 : ∀ i, wc.cell? ⟨gb136, i, none⟩ = _ := blk_cell BK136.out
              have hcz29_1 : wc.cell? ⟨gb136, 1, none⟩ = some (.bool a0_1) := (blk_cell BK136.out 1).trans rfl
              have hcz29_2 : wc.cell? ⟨gb136, 2, none⟩ = some (.int .i64 a0_2) := (blk_cell BK136.out 2).trans rfl
              have hcz29_3 : wc.cell? ⟨gb136, 3, none⟩ = some (.int .i64 a0_3) := (blk_cell BK136.out 3).trans rfl
              have hcz29_4 : wc.cell? ⟨gb136, 4, none⟩ = some (.slice A0_4 l0_4.length c0_4) := (blk_cell BK136.out 4).trans rfl
              have hcz29_5 : wc.cell? ⟨gb136, 5, none⟩ = some (.slice A0_5 l0_5.length c0_5) := (blk_cell BK136.out 5).trans rfl
              have hcz29_6 : wc.cell? ⟨gb136, 6, none⟩ = some (.int .i64 a0_6) := (blk_cell BK136.out 6).trans rfl
              have hcz29_7 : wc.cell? ⟨gb136, 7, none⟩ = some (.bool a0_7) := (blk_cell BK136.out 7).trans rfl
              have hcz29_8 : wc.cell? ⟨gb136, 8, none⟩ = some (.bool a0_8) := (blk_cell BK136.out 8).trans rfl
              have hcz29_9 : wc.cell? ⟨gb136, 9, none⟩ = some (.bool a0_9) := (blk_cell BK136.out 9).trans rfl
              have hcz29_10 : wc.cell? ⟨gb136, 10, none⟩ = some (.int .i64 a0_10) := (blk_cell BK136.out 10).trans rfl
              have hcz29_11 : wc.cell? ⟨gb136, 11, none⟩ = some (.int .i64 a0_11) := (blk_cell BK136.out 11).trans rfl
              have hcz29_12 : wc.cell? ⟨gb136, 12, none⟩ = some (.int .i64 a0_12) := (blk_cell BK136.out 12).trans rfl
              have hfz29_0 := blk_frozen BK136.out
              have hfz29_1 := blk_frozen BK136.out 1
              have hfz29_2 := blk_frozen BK136.out 2
              have hfz29_3 := blk_frozen BK136.out 3
              have hfz29_4 := blk_frozen BK136.out 4
              have hfz29_5 := blk_frozen BK136.out 5
              have hfz29_6 := blk_frozen BK136.out 6
              have hfz29_7 := blk_frozen BK136.out 7
              have hfz29_8 := blk_frozen BK136.out 8
              have hfz29_9 := blk_frozen BK136.out 9
              have hfz29_10 := blk_frozen BK136.out 10
              have hfz29_11 := blk_frozen BK136.out 11
              have hfz29_12 := blk_frozen BK136.out 12
              go_wp2_with (first | ((with_reducible refine gate_load (t := 33) rfl ?_); refine load_all (g := gb136) (ty := 33) rfl rfl rfl (bx BK136.out) (by kernel_rfl) (by kernel_rfl) ?_; simp only [Act.put, List.setIfInBounds_toArray, List.set_cons_zero, List.set_cons_succ]) | ((with_reducible refine gate_callee (f := 26) rfl ?_); refine goesL_ (some 58) rfl rfl Try.func26 (by kernel_rfl) rfl #[.agg #[.int .i64 a0_2, .int .i64 a0_3, .slice A0_4 l0_4.length c0_4, .slice A0_5 l0_5.length c0_5]] rfl (by (try simp only [List.map_toArray, List.map_cons, List.map_nil]); first | done | rfl | (simp only [List.length_drop, List.length_take]; rfl)) ?_; (with_reducible refine (spec_TilesOf.calls kj1 a0_2 a0_3 _ _ l0_4 _ _ l0_5 t139 _ ?side1 ?side2 ?side3 ?side4 A11.out).mono ?_); (case side1 => repeat (first | exact (Kd.C_below HR0_4.out HB.out) | (with_reducible refine Kd.C_alloc ?_ _) | (with_reducible refine Kd.C_drewN ?_ _) | (with_reducible refine Kd.C_drew ?_))); (case side2 => exact HC0_4.out); (case side3 => repeat (first | exact (Kd.C_below HR0_5.out HB.out) | (with_reducible refine Kd.C_alloc ?_ _) | (with_reducible refine Kd.C_drewN ?_ _) | (with_reducible refine Kd.C_drew ?_))); (case side4 => exact HC0_5.out); rintro e w30 ⟨rfl, hb⟩; refine ⟨_, rfl, ?_⟩; have n0_ := Aside0.mk (blk_below (bx BK136.out) hb); have n1_ := bs HB hb; clear BK136; clear HB; have BK136 := n0_; have HB := n1_; clear n0_ n1_; (try clear hb); (try clear hb2); (try clear hk); (try clear hi); have hcz31_0 : ∀ i, w30.cell? ⟨gb136, i, none⟩ = _ := blk_cell BK136.out; have hfz31_0 := blk_frozen BK136.out) | (go_at_call 27; (with_reducible refine (spec_ParOk.calls a0_6 a0_7 a0_8 a0_9 false _ A13.out).mono ?_); rintro e w32 ⟨rfl, hb⟩; have n0_ := Aside0.mk (blk_below (bx BK136.out) hb); have n1_ := bs HB hb; clear BK136; clear HB; have BK136 := n0_; have HB := n1_; clear n0_ n1_; (try clear hb); (try clear hb2); (try clear hk); (try clear hi)))
              go_ret
              exact ⟨rr, bl⟩
          · rw [if_neg c12] at H
            have c12b0 : (t139 == 1) = false := beq_eq_false_iff_ne.mpr c12
            have c12b1 : (t139 != 1) = true := bne_iff_ne.mpr c12
            obtain rfl := Option.some.inj H
            have hcz33_0 : ∀ i, wc.cell? ⟨gb136, i, none⟩ = _ := blk_cell BK136.out
            have hcz33_1 : wc.cell? ⟨gb136, 1, none⟩ = some (.bool a0_1) := (blk_cell BK136.out 1).trans rfl
            have hcz33_2 : wc.cell? ⟨gb136, 2, none⟩ = some (.int .i64 a0_2) := (blk_cell BK136.out 2).trans rfl
            have hcz33_3 : wc.cell? ⟨gb136, 3, none⟩ = some (.int .i64 a0_3) := (blk_cell BK136.out 3).trans rfl
            have hcz33_4 : wc.cell? ⟨gb136, 4, none⟩ = some (.slice A0_4 l0_4.length c0_4) := (blk_cell BK136.out 4).trans rfl
            have hcz33_5 : wc.cell? ⟨gb136, 5, none⟩ = some (.slice A0_5 l0_5.length c0_5) := (blk_cell BK136.out 5).trans rfl
            have hcz33_6 : wc.cell? ⟨gb136, 6, none⟩ = some (.int .i64 a0_6) := (blk_cell BK136.out 6).trans rfl
            have hcz33_7 : wc.cell? ⟨gb136, 7, none⟩ = some (.bool a0_7) := (blk_cell BK136.out 7).trans rfl
            have hcz33_8 : wc.cell? ⟨gb136, 8, none⟩ = some (.bool a0_8) := (blk_cell BK136.out 8).trans rfl
            have hcz33_9 : wc.cell? ⟨gb136, 9, none⟩ = some (.bool a0_9) := (blk_cell BK136.out 9).trans rfl
            have hcz33_10 : wc.cell? ⟨gb136, 10, none⟩ = some (.int .i64 a0_10) := (blk_cell BK136.out 10).trans rfl
            have hcz33_11 : wc.cell? ⟨gb136, 11, none⟩ = some (.int .i64 a0_11) := (blk_cell BK136.out 11).trans rfl
            have hcz33_12 : wc.cell? ⟨gb136, 12, none⟩ = some (.int .i64 a0_12) := (blk_cell BK136.out 12).trans rfl
            have hfz33_0 := blk_frozen BK136.out
            have hfz33_1 := blk_frozen BK136.out 1
            have hfz33_2 := blk_frozen BK136.out 2
            have hfz33_3 := blk_frozen BK136.out 3
            have hfz33_4 := blk_frozen BK136.out 4
            have hfz33_5 := blk_frozen BK136.out 5
            have hfz33_6 := blk_frozen BK136.out 6
            have hfz33_7 := blk_frozen BK136.out 7
            have hfz33_8 := blk_frozen BK136.out 8
            have hfz33_9 := blk_frozen BK136.out 9
            have hfz33_10 := blk_frozen BK136.out 10
            have hfz33_11 := blk_frozen BK136.out 11
            have hfz33_12 := blk_frozen BK136.out 12
            go_wp2_with (first | ((with_reducible refine gate_load (t := 33) rfl ?_); refine load_all (g := gb136) (ty := 33) rfl rfl rfl (bx BK136.out) (by kernel_rfl) (by kernel_rfl) ?_; simp only [Act.put, List.setIfInBounds_toArray, List.set_cons_zero, List.set_cons_succ]) | ((with_reducible refine gate_callee (f := 26) rfl ?_); refine goesL_ (some 58) rfl rfl Try.func26 (by kernel_rfl) rfl #[.agg #[.int .i64 a0_2, .int .i64 a0_3, .slice A0_4 l0_4.length c0_4, .slice A0_5 l0_5.length c0_5]] rfl (by (try simp only [List.map_toArray, List.map_cons, List.map_nil]); first | done | rfl | (simp only [List.length_drop, List.length_take]; rfl)) ?_; (with_reducible refine (spec_TilesOf.calls kj1 a0_2 a0_3 _ _ l0_4 _ _ l0_5 t139 _ ?side1 ?side2 ?side3 ?side4 A11.out).mono ?_); (case side1 => repeat (first | exact (Kd.C_below HR0_4.out HB.out) | (with_reducible refine Kd.C_alloc ?_ _) | (with_reducible refine Kd.C_drewN ?_ _) | (with_reducible refine Kd.C_drew ?_))); (case side2 => exact HC0_4.out); (case side3 => repeat (first | exact (Kd.C_below HR0_5.out HB.out) | (with_reducible refine Kd.C_alloc ?_ _) | (with_reducible refine Kd.C_drewN ?_ _) | (with_reducible refine Kd.C_drew ?_))); (case side4 => exact HC0_5.out); rintro e w34 ⟨rfl, hb⟩; refine ⟨_, rfl, ?_⟩; have n0_ := Aside0.mk (blk_below (bx BK136.out) hb); have n1_ := bs HB hb; clear BK136; clear HB; have BK136 := n0_; have HB := n1_; clear n0_ n1_; (try clear hb); (try clear hb2); (try clear hk); (try clear hi)))
            go_ret
            exact ⟨rr, bl⟩
        · replace c10 := Bool.eq_false_iff.mpr c10
          subst c10
          have H1 : (if a0_1 = true then (some false) else (if a0_2 = 0 then (if a0_3 = 0 then (if (l0_4.length : Int) = 0 then (if (l0_5.length : Int) = 0 then (if (a0_6 == 0 && (!a0_7 && (!a0_8 && (!a0_9)))) = true then (some (a0_10 == 0)) else (some false)) else (some false)) else (some false)) else (some false)) else (some false))) = some r := by rw [if_neg (show ¬ (false = true) by decide)] at H; exact H
          clear H
          have H := H1
          clear H1
          by_cases c35 : a0_1 = true
          · subst c35
            rw [if_pos rfl] at H
            obtain rfl := Option.some.inj H
            have hcz36_0 : ∀ i, wc.cell? ⟨gb136, i, none⟩ = _ := blk_cell BK136.out
            have hcz36_1 : wc.cell? ⟨gb136, 1, none⟩ = some (.bool true) := (blk_cell BK136.out 1).trans rfl
            have hcz36_2 : wc.cell? ⟨gb136, 2, none⟩ = some (.int .i64 a0_2) := (blk_cell BK136.out 2).trans rfl
            have hcz36_3 : wc.cell? ⟨gb136, 3, none⟩ = some (.int .i64 a0_3) := (blk_cell BK136.out 3).trans rfl
            have hcz36_4 : wc.cell? ⟨gb136, 4, none⟩ = some (.slice A0_4 l0_4.length c0_4) := (blk_cell BK136.out 4).trans rfl
            have hcz36_5 : wc.cell? ⟨gb136, 5, none⟩ = some (.slice A0_5 l0_5.length c0_5) := (blk_cell BK136.out 5).trans rfl
            have hcz36_6 : wc.cell? ⟨gb136, 6, none⟩ = some (.int .i64 a0_6) := (blk_cell BK136.out 6).trans rfl
            have hcz36_7 : wc.cell? ⟨gb136, 7, none⟩ = some (.bool a0_7) := (blk_cell BK136.out 7).trans rfl
            have hcz36_8 : wc.cell? ⟨gb136, 8, none⟩ = some (.bool a0_8) := (blk_cell BK136.out 8).trans rfl
            have hcz36_9 : wc.cell? ⟨gb136, 9, none⟩ = some (.bool a0_9) := (blk_cell BK136.out 9).trans rfl
            have hcz36_10 : wc.cell? ⟨gb136, 10, none⟩ = some (.int .i64 a0_10) := (blk_cell BK136.out 10).trans rfl
            have hcz36_11 : wc.cell? ⟨gb136, 11, none⟩ = some (.int .i64 a0_11) := (blk_cell BK136.out 11).trans rfl
            have hcz36_12 : wc.cell? ⟨gb136, 12, none⟩ = some (.int .i64 a0_12) := (blk_cell BK136.out 12).trans rfl
            have hfz36_0 := blk_frozen BK136.out
            have hfz36_1 := blk_frozen BK136.out 1
            have hfz36_2 := blk_frozen BK136.out 2
            have hfz36_3 := blk_frozen BK136.out 3
            have hfz36_4 := blk_frozen BK136.out 4
            have hfz36_5 := blk_frozen BK136.out 5
            have hfz36_6 := blk_frozen BK136.out 6
            have hfz36_7 := blk_frozen BK136.out 7
            have hfz36_8 := blk_frozen BK136.out 8
            have hfz36_9 := blk_frozen BK136.out 9
            have hfz36_10 := blk_frozen BK136.out 10
            have hfz36_11 := blk_frozen BK136.out 11
            have hfz36_12 := blk_frozen BK136.out 12
            go_wp2
            go_ret
            exact ⟨rr, bl⟩
          · replace c35 := Bool.eq_false_iff.mpr c35
            subst c35
            have H1 : (if a0_2 = 0 then (if a0_3 = 0 then (if (l0_4.length : Int) = 0 then (if (l0_5.length : Int) = 0 then (if (a0_6 == 0 && (!a0_7 && (!a0_8 && (!a0_9)))) = true then (some (a0_10 == 0)) else (some false)) else (some false)) else (some false)) else (some false)) else (some false)) = some r := by rw [if_neg (show ¬ (false = true) by decide)] at H; exact H
            clear H
            have H := H1
            clear H1
            by_cases c37 : a0_2 = 0
            · rw [if_pos c37] at H
              have c37b0 : (a0_2 == 0) = true := beq_iff_eq.mpr c37
              have c37b1 : (a0_2 != 0) = false := bne_eq_false_iff_eq.mpr c37
              clear c37
              by_cases c38 : a0_3 = 0
              · rw [if_pos c38] at H
                have c38b0 : (a0_3 == 0) = true := beq_iff_eq.mpr c38
                have c38b1 : (a0_3 != 0) = false := bne_eq_false_iff_eq.mpr c38
                clear c38
                by_cases c39 : (l0_4.length : Int) = 0
                · rw [if_pos c39] at H
                  have c39b0 : ((l0_4.length : Int) == 0) = true := beq_iff_eq.mpr c39
                  have c39b1 : ((l0_4.length : Int) != 0) = false := bne_eq_false_iff_eq.mpr c39
                  clear c39
                  by_cases c40 : (l0_5.length : Int) = 0
                  · rw [if_pos c40] at H
                    have c40b0 : ((l0_5.length : Int) == 0) = true := beq_iff_eq.mpr c40
                    have c40b1 : ((l0_5.length : Int) != 0) = false := bne_eq_false_iff_eq.mpr c40
                    clear c40
                    by_cases c41 : (a0_6 == 0 && (!a0_7 && (!a0_8 && (!a0_9)))) = true
                    · rw [if_pos c41] at H
                      have c41b0 : (a0_6 == 0 && (!a0_7 && (!a0_8 && (!a0_9)))) = true := c41
                      (try (have c41b1 : decide (a0_6 = 0 && (!a0_7 && (!a0_8 && (!a0_9)))) = true := by simpa using c41))
                      (try (have c41b2 : (a0_6 == 0 && (!a0_7 && (!a0_8 && (!a0_9)))) = true := by simpa using c41))
                      clear c41
                      obtain rfl := Option.some.inj H
                      have hcz42_0 : ∀ i, wc.cell? ⟨gb136, i, none⟩ = _ := blk_cell BK136.out
                      have hcz42_1 : wc.cell? ⟨gb136, 1, none⟩ = some (.bool false) := (blk_cell BK136.out 1).trans rfl
                      have hcz42_2 : wc.cell? ⟨gb136, 2, none⟩ = some (.int .i64 a0_2) := (blk_cell BK136.out 2).trans rfl
                      have hcz42_3 : wc.cell? ⟨gb136, 3, none⟩ = some (.int .i64 a0_3) := (blk_cell BK136.out 3).trans rfl
                      have hcz42_4 : wc.cell? ⟨gb136, 4, none⟩ = some (.slice A0_4 l0_4.length c0_4) := (blk_cell BK136.out 4).trans rfl
                      have hcz42_5 : wc.cell? ⟨gb136, 5, none⟩ = some (.slice A0_5 l0_5.length c0_5) := (blk_cell BK136.out 5).trans rfl
                      have hcz42_6 : wc.cell? ⟨gb136, 6, none⟩ = some (.int .i64 a0_6) := (blk_cell BK136.out 6).trans rfl
                      have hcz42_7 : wc.cell? ⟨gb136, 7, none⟩ = some (.bool a0_7) := (blk_cell BK136.out 7).trans rfl
                      have hcz42_8 : wc.cell? ⟨gb136, 8, none⟩ = some (.bool a0_8) := (blk_cell BK136.out 8).trans rfl
                      have hcz42_9 : wc.cell? ⟨gb136, 9, none⟩ = some (.bool a0_9) := (blk_cell BK136.out 9).trans rfl
                      have hcz42_10 : wc.cell? ⟨gb136, 10, none⟩ = some (.int .i64 a0_10) := (blk_cell BK136.out 10).trans rfl
                      have hcz42_11 : wc.cell? ⟨gb136, 11, none⟩ = some (.int .i64 a0_11) := (blk_cell BK136.out 11).trans rfl
                      have hcz42_12 : wc.cell? ⟨gb136, 12, none⟩ = some (.int .i64 a0_12) := (blk_cell BK136.out 12).trans rfl
                      have hfz42_0 := blk_frozen BK136.out
                      have hfz42_1 := blk_frozen BK136.out 1
                      have hfz42_2 := blk_frozen BK136.out 2
                      have hfz42_3 := blk_frozen BK136.out 3
                      have hfz42_4 := blk_frozen BK136.out 4
                      have hfz42_5 := blk_frozen BK136.out 5
                      have hfz42_6 := blk_frozen BK136.out 6
                      have hfz42_7 := blk_frozen BK136.out 7
                      have hfz42_8 := blk_frozen BK136.out 8
                      have hfz42_9 := blk_frozen BK136.out 9
                      have hfz42_10 := blk_frozen BK136.out 10
                      have hfz42_11 := blk_frozen BK136.out 11
                      have hfz42_12 := blk_frozen BK136.out 12
                      go_wp2
                      go_ret
                      exact ⟨rr, bl⟩
                    · rw [if_neg c41] at H
                      have c41b0 : (a0_6 == 0 && (!a0_7 && (!a0_8 && (!a0_9)))) = false := by simpa using c41
                      (try (have c41b1 : decide (a0_6 = 0 && (!a0_7 && (!a0_8 && (!a0_9)))) = false := by simpa using c41))
                      (try (have c41b2 : (a0_6 == 0 && (!a0_7 && (!a0_8 && (!a0_9)))) = false := by simpa using c41))
                      (try (have c41b3 : ¬ (a0_6 = 0 && (!a0_7 && (!a0_8 && (!a0_9)))) := by simpa using c41))
                      clear c41
                      obtain rfl := Option.some.inj H
                      have hcz43_0 : ∀ i, wc.cell? ⟨gb136, i, none⟩ = _ := blk_cell BK136.out
                      have hcz43_1 : wc.cell? ⟨gb136, 1, none⟩ = some (.bool false) := (blk_cell BK136.out 1).trans rfl
                      have hcz43_2 : wc.cell? ⟨gb136, 2, none⟩ = some (.int .i64 a0_2) := (blk_cell BK136.out 2).trans rfl
                      have hcz43_3 : wc.cell? ⟨gb136, 3, none⟩ = some (.int .i64 a0_3) := (blk_cell BK136.out 3).trans rfl
                      have hcz43_4 : wc.cell? ⟨gb136, 4, none⟩ = some (.slice A0_4 l0_4.length c0_4) := (blk_cell BK136.out 4).trans rfl
                      have hcz43_5 : wc.cell? ⟨gb136, 5, none⟩ = some (.slice A0_5 l0_5.length c0_5) := (blk_cell BK136.out 5).trans rfl
                      have hcz43_6 : wc.cell? ⟨gb136, 6, none⟩ = some (.int .i64 a0_6) := (blk_cell BK136.out 6).trans rfl
                      have hcz43_7 : wc.cell? ⟨gb136, 7, none⟩ = some (.bool a0_7) := (blk_cell BK136.out 7).trans rfl
                      have hcz43_8 : wc.cell? ⟨gb136, 8, none⟩ = some (.bool a0_8) := (blk_cell BK136.out 8).trans rfl
                      have hcz43_9 : wc.cell? ⟨gb136, 9, none⟩ = some (.bool a0_9) := (blk_cell BK136.out 9).trans rfl
                      have hcz43_10 : wc.cell? ⟨gb136, 10, none⟩ = some (.int .i64 a0_10) := (blk_cell BK136.out 10).trans rfl
                      have hcz43_11 : wc.cell? ⟨gb136, 11, none⟩ = some (.int .i64 a0_11) := (blk_cell BK136.out 11).trans rfl
                      have hcz43_12 : wc.cell? ⟨gb136, 12, none⟩ = some (.int .i64 a0_12) := (blk_cell BK136.out 12).trans rfl
                      have hfz43_0 := blk_frozen BK136.out
                      have hfz43_1 := blk_frozen BK136.out 1
                      have hfz43_2 := blk_frozen BK136.out 2
                      have hfz43_3 := blk_frozen BK136.out 3
                      have hfz43_4 := blk_frozen BK136.out 4
                      have hfz43_5 := blk_frozen BK136.out 5
                      have hfz43_6 := blk_frozen BK136.out 6
                      have hfz43_7 := blk_frozen BK136.out 7
                      have hfz43_8 := blk_frozen BK136.out 8
                      have hfz43_9 := blk_frozen BK136.out 9
                      have hfz43_10 := blk_frozen BK136.out 10
                      have hfz43_11 := blk_frozen BK136.out 11
                      have hfz43_12 := blk_frozen BK136.out 12
                      go_wp2
                      go_ret
                      exact ⟨rr, bl⟩
                  · rw [if_neg c40] at H
                    have c40b0 : ((l0_5.length : Int) == 0) = false := beq_eq_false_iff_ne.mpr c40
                    have c40b1 : ((l0_5.length : Int) != 0) = true := bne_iff_ne.mpr c40
                    have c40b2 : ¬ (l0_5 = []) := fun h_ => c40 (by rw [h_]; rfl)
                    obtain rfl := Option.some.inj H
                    have hcz44_0 : ∀ i, wc.cell? ⟨gb136, i, none⟩ = _ := blk_cell BK136.out
                    have hcz44_1 : wc.cell? ⟨gb136, 1, none⟩ = some (.bool false) := (blk_cell BK136.out 1).trans rfl
                    have hcz44_2 : wc.cell? ⟨gb136, 2, none⟩ = some (.int .i64 a0_2) := (blk_cell BK136.out 2).trans rfl
                    have hcz44_3 : wc.cell? ⟨gb136, 3, none⟩ = some (.int .i64 a0_3) := (blk_cell BK136.out 3).trans rfl
                    have hcz44_4 : wc.cell? ⟨gb136, 4, none⟩ = some (.slice A0_4 l0_4.length c0_4) := (blk_cell BK136.out 4).trans rfl
                    have hcz44_5 : wc.cell? ⟨gb136, 5, none⟩ = some (.slice A0_5 l0_5.length c0_5) := (blk_cell BK136.out 5).trans rfl
                    have hcz44_6 : wc.cell? ⟨gb136, 6, none⟩ = some (.int .i64 a0_6) := (blk_cell BK136.out 6).trans rfl
                    have hcz44_7 : wc.cell? ⟨gb136, 7, none⟩ = some (.bool a0_7) := (blk_cell BK136.out 7).trans rfl
                    have hcz44_8 : wc.cell? ⟨gb136, 8, none⟩ = some (.bool a0_8) := (blk_cell BK136.out 8).trans rfl
                    have hcz44_9 : wc.cell? ⟨gb136, 9, none⟩ = some (.bool a0_9) := (blk_cell BK136.out 9).trans rfl
                    have hcz44_10 : wc.cell? ⟨gb136, 10, none⟩ = some (.int .i64 a0_10) := (blk_cell BK136.out 10).trans rfl
                    have hcz44_11 : wc.cell? ⟨gb136, 11, none⟩ = some (.int .i64 a0_11) := (blk_cell BK136.out 11).trans rfl
                    have hcz44_12 : wc.cell? ⟨gb136, 12, none⟩ = some (.int .i64 a0_12) := (blk_cell BK136.out 12).trans rfl
                    have hfz44_0 := blk_frozen BK136.out
                    have hfz44_1 := blk_frozen BK136.out 1
                    have hfz44_2 := blk_frozen BK136.out 2
                    have hfz44_3 := blk_frozen BK136.out 3
                    have hfz44_4 := blk_frozen BK136.out 4
                    have hfz44_5 := blk_frozen BK136.out 5
                    have hfz44_6 := blk_frozen BK136.out 6
                    have hfz44_7 := blk_frozen BK136.out 7
                    have hfz44_8 := blk_frozen BK136.out 8
                    have hfz44_9 := blk_frozen BK136.out 9
                    have hfz44_10 := blk_frozen BK136.out 10
                    have hfz44_11 := blk_frozen BK136.out 11
                    have hfz44_12 := blk_frozen BK136.out 12
                    go_wp2
                    go_ret
                    exact ⟨rr, bl⟩
                · rw [if_neg c39] at H
                  have c39b0 : ((l0_4.length : Int) == 0) = false := beq_eq_false_iff_ne.mpr c39
                  have c39b1 : ((l0_4.length : Int) != 0) = true := bne_iff_ne.mpr c39
                  have c39b2 : ¬ (l0_4 = []) := fun h_ => c39 (by rw [h_]; rfl)
                  obtain rfl := Option.some.inj H
                  have hcz45_0 : ∀ i, wc.cell? ⟨gb136, i, none⟩ = _ := blk_cell BK136.out
                  have hcz45_1 : wc.cell? ⟨gb136, 1, none⟩ = some (.bool false) := (blk_cell BK136.out 1).trans rfl
                  have hcz45_2 : wc.cell? ⟨gb136, 2, none⟩ = some (.int .i64 a0_2) := (blk_cell BK136.out 2).trans rfl
                  have hcz45_3 : wc.cell? ⟨gb136, 3, none⟩ = some (.int .i64 a0_3) := (blk_cell BK136.out 3).trans rfl
                  have hcz45_4 : wc.cell? ⟨gb136, 4, none⟩ = some (.slice A0_4 l0_4.length c0_4) := (blk_cell BK136.out 4).trans rfl
                  have hcz45_5 : wc.cell? ⟨gb136, 5, none⟩ = some (.slice A0_5 l0_5.length c0_5) := (blk_cell BK136.out 5).trans rfl
                  have hcz45_6 : wc.cell? ⟨gb136, 6, none⟩ = some (.int .i64 a0_6) := (blk_cell BK136.out 6).trans rfl
                  have hcz45_7 : wc.cell? ⟨gb136, 7, none⟩ = some (.bool a0_7) := (blk_cell BK136.out 7).trans rfl
                  have hcz45_8 : wc.cell? ⟨gb136, 8, none⟩ = some (.bool a0_8) := (blk_cell BK136.out 8).trans rfl
                  have hcz45_9 : wc.cell? ⟨gb136, 9, none⟩ = some (.bool a0_9) := (blk_cell BK136.out 9).trans rfl
                  have hcz45_10 : wc.cell? ⟨gb136, 10, none⟩ = some (.int .i64 a0_10) := (blk_cell BK136.out 10).trans rfl
                  have hcz45_11 : wc.cell? ⟨gb136, 11, none⟩ = some (.int .i64 a0_11) := (blk_cell BK136.out 11).trans rfl
                  have hcz45_12 : wc.cell? ⟨gb136, 12, none⟩ = some (.int .i64 a0_12) := (blk_cell BK136.out 12).trans rfl
                  have hfz45_0 := blk_frozen BK136.out
                  have hfz45_1 := blk_frozen BK136.out 1
                  have hfz45_2 := blk_frozen BK136.out 2
                  have hfz45_3 := blk_frozen BK136.out 3
                  have hfz45_4 := blk_frozen BK136.out 4
                  have hfz45_5 := blk_frozen BK136.out 5
                  have hfz45_6 := blk_frozen BK136.out 6
                  have hfz45_7 := blk_frozen BK136.out 7
                  have hfz45_8 := blk_frozen BK136.out 8
                  have hfz45_9 := blk_frozen BK136.out 9
                  have hfz45_10 := blk_frozen BK136.out 10
                  have hfz45_11 := blk_frozen BK136.out 11
                  have hfz45_12 := blk_frozen BK136.out 12
                  go_wp2
                  go_ret
                  exact ⟨rr, bl⟩
              · rw [if_neg c38] at H
                have c38b0 : (a0_3 == 0) = false := beq_eq_false_iff_ne.mpr c38
                have c38b1 : (a0_3 != 0) = true := bne_iff_ne.mpr c38
                obtain rfl := Option.some.inj H
                have hcz46_0 : ∀ i, wc.cell? ⟨gb136, i, none⟩ = _ := blk_cell BK136.out
                have hcz46_1 : wc.cell? ⟨gb136, 1, none⟩ = some (.bool false) := (blk_cell BK136.out 1).trans rfl
                have hcz46_2 : wc.cell? ⟨gb136, 2, none⟩ = some (.int .i64 a0_2) := (blk_cell BK136.out 2).trans rfl
                have hcz46_3 : wc.cell? ⟨gb136, 3, none⟩ = some (.int .i64 a0_3) := (blk_cell BK136.out 3).trans rfl
                have hcz46_4 : wc.cell? ⟨gb136, 4, none⟩ = some (.slice A0_4 l0_4.length c0_4) := (blk_cell BK136.out 4).trans rfl
                have hcz46_5 : wc.cell? ⟨gb136, 5, none⟩ = some (.slice A0_5 l0_5.length c0_5) := (blk_cell BK136.out 5).trans rfl
                have hcz46_6 : wc.cell? ⟨gb136, 6, none⟩ = some (.int .i64 a0_6) := (blk_cell BK136.out 6).trans rfl
                have hcz46_7 : wc.cell? ⟨gb136, 7, none⟩ = some (.bool a0_7) := (blk_cell BK136.out 7).trans rfl
                have hcz46_8 : wc.cell? ⟨gb136, 8, none⟩ = some (.bool a0_8) := (blk_cell BK136.out 8).trans rfl
                have hcz46_9 : wc.cell? ⟨gb136, 9, none⟩ = some (.bool a0_9) := (blk_cell BK136.out 9).trans rfl
                have hcz46_10 : wc.cell? ⟨gb136, 10, none⟩ = some (.int .i64 a0_10) := (blk_cell BK136.out 10).trans rfl
                have hcz46_11 : wc.cell? ⟨gb136, 11, none⟩ = some (.int .i64 a0_11) := (blk_cell BK136.out 11).trans rfl
                have hcz46_12 : wc.cell? ⟨gb136, 12, none⟩ = some (.int .i64 a0_12) := (blk_cell BK136.out 12).trans rfl
                have hfz46_0 := blk_frozen BK136.out
                have hfz46_1 := blk_frozen BK136.out 1
                have hfz46_2 := blk_frozen BK136.out 2
                have hfz46_3 := blk_frozen BK136.out 3
                have hfz46_4 := blk_frozen BK136.out 4
                have hfz46_5 := blk_frozen BK136.out 5
                have hfz46_6 := blk_frozen BK136.out 6
                have hfz46_7 := blk_frozen BK136.out 7
                have hfz46_8 := blk_frozen BK136.out 8
                have hfz46_9 := blk_frozen BK136.out 9
                have hfz46_10 := blk_frozen BK136.out 10
                have hfz46_11 := blk_frozen BK136.out 11
                have hfz46_12 := blk_frozen BK136.out 12
                go_wp2
                go_ret
                exact ⟨rr, bl⟩
            · rw [if_neg c37] at H
              have c37b0 : (a0_2 == 0) = false := beq_eq_false_iff_ne.mpr c37
              have c37b1 : (a0_2 != 0) = true := bne_iff_ne.mpr c37
              obtain rfl := Option.some.inj H
              have hcz47_0 : ∀ i, wc.cell? ⟨gb136, i, none⟩ = _ := blk_cell BK136.out
              have hcz47_1 : wc.cell? ⟨gb136, 1, none⟩ = some (.bool false) := (blk_cell BK136.out 1).trans rfl
              have hcz47_2 : wc.cell? ⟨gb136, 2, none⟩ = some (.int .i64 a0_2) := (blk_cell BK136.out 2).trans rfl
              have hcz47_3 : wc.cell? ⟨gb136, 3, none⟩ = some (.int .i64 a0_3) := (blk_cell BK136.out 3).trans rfl
              have hcz47_4 : wc.cell? ⟨gb136, 4, none⟩ = some (.slice A0_4 l0_4.length c0_4) := (blk_cell BK136.out 4).trans rfl
              have hcz47_5 : wc.cell? ⟨gb136, 5, none⟩ = some (.slice A0_5 l0_5.length c0_5) := (blk_cell BK136.out 5).trans rfl
              have hcz47_6 : wc.cell? ⟨gb136, 6, none⟩ = some (.int .i64 a0_6) := (blk_cell BK136.out 6).trans rfl
              have hcz47_7 : wc.cell? ⟨gb136, 7, none⟩ = some (.bool a0_7) := (blk_cell BK136.out 7).trans rfl
              have hcz47_8 : wc.cell? ⟨gb136, 8, none⟩ = some (.bool a0_8) := (blk_cell BK136.out 8).trans rfl
              have hcz47_9 : wc.cell? ⟨gb136, 9, none⟩ = some (.bool a0_9) := (blk_cell BK136.out 9).trans rfl
              have hcz47_10 : wc.cell? ⟨gb136, 10, none⟩ = some (.int .i64 a0_10) := (blk_cell BK136.out 10).trans rfl
              have hcz47_11 : wc.cell? ⟨gb136, 11, none⟩ = some (.int .i64 a0_11) := (blk_cell BK136.out 11).trans rfl
              have hcz47_12 : wc.cell? ⟨gb136, 12, none⟩ = some (.int .i64 a0_12) := (blk_cell BK136.out 12).trans rfl
              have hfz47_0 := blk_frozen BK136.out
              have hfz47_1 := blk_frozen BK136.out 1
              have hfz47_2 := blk_frozen BK136.out 2
              have hfz47_3 := blk_frozen BK136.out 3
              have hfz47_4 := blk_frozen BK136.out 4
              have hfz47_5 := blk_frozen BK136.out 5
              have hfz47_6 := blk_frozen BK136.out 6
              have hfz47_7 := blk_frozen BK136.out 7
              have hfz47_8 := blk_frozen BK136.out 8
              have hfz47_9 := blk_frozen BK136.out 9
              have hfz47_10 := blk_frozen BK136.out 10
              have hfz47_11 := blk_frozen BK136.out 11
              have hfz47_12 := blk_frozen BK136.out 12
              go_wp2
              go_ret
              exact ⟨rr, bl⟩

end Go.Proofs.Ythgoneamhlcmbaa.QFnExactAdmitLose
