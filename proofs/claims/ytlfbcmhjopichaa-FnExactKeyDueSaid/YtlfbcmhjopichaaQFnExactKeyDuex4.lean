/- Contracts of the functions that a law reaches: each Go function comes to what its Lean function tells. Written by this session's own program. Conditions: as each statement tells. -/
import Derived.Test.YtlfbcmhjopichaaQFnExactKeyDuex0
import Derived.Test.YtlfbcmhjopichaaQFnExactKeyDuex2
import Derived.Test.YtlfbcmhjopichaaQFnExactKeyDuex3
namespace Go.Proofs.Ytlfbcmhjopichaa.QFnExactKeyDue
open Go.RowKit Go.Proofs.YtlfbcmhjopichaaW.PrintWords Go.Proofs.YtlfbcmhjopichaaW.PrintLast Go.Proofs.YtlfbcmhjopichaaW.PrintMore
attribute [local go_sem] i64_w i32_w w64_m256 max2_int min2_int max_two min_two max_three min_three max_four min_four   -- for this text's walks alone
set_option linter.unusedVariables false
set_option linter.unusedSimpArgs false

/-! ### spec_SourceOk: function 71 -/
mutual
def spec_SourceOk.j0 : Nat → Bool → Int → Int → List Int → List Int → Int → Bool → Bool → Bool → Int → Int → Int → Int → Int → Int → Int → Bool → Int → Int → ByteArray → Option (Bool)
  | 0, _, _, _, _, _, _, _, _, _, _, _, _, _, _, _, _, _, _, _, _ => none
  | k + 1, x35, x135000, x135001, x135002, x135003, x135004, x135005, x135006, x135007, x135008, x135009, x135010, x135011, x135012, x135013, x135014, x135015, x135016, x135017, x135018 => if x35 = true then (some false) else ((spec_l01In.f x135013 1 1000).bind fun t138 => (if t138 = true then ((spec_l01In.f x135012 0 1000).bind fun t139 => (if t139 = true then ((spec_l01In.f x135014 0 4).bind fun t140 => (spec_SourceOk.j1 k (!t140) x135000 x135001 x135002 x135003 x135004 x135005 x135006 x135007 x135008 x135009 x135010 x135011 x135012 x135013 x135014 x135015 x135016 x135017 x135018)) else (spec_SourceOk.j1 k true x135000 x135001 x135002 x135003 x135004 x135005 x135006 x135007 x135008 x135009 x135010 x135011 x135012 x135013 x135014 x135015 x135016 x135017 x135018))) else (spec_SourceOk.j1 k true x135000 x135001 x135002 x135003 x135004 x135005 x135006 x135007 x135008 x135009 x135010 x135011 x135012 x135013 x135014 x135015 x135016 x135017 x135018)))
def spec_SourceOk.j1 : Nat → Bool → Int → Int → List Int → List Int → Int → Bool → Bool → Bool → Int → Int → Int → Int → Int → Int → Int → Bool → Int → Int → ByteArray → Option (Bool)
  | 0, _, _, _, _, _, _, _, _, _, _, _, _, _, _, _, _, _, _, _, _ => none
  | k + 1, x51, x135000, x135001, x135002, x135003, x135004, x135005, x135006, x135007, x135008, x135009, x135010, x135011, x135012, x135013, x135014, x135015, x135016, x135017, x135018 => if x51 = true then (some false) else ((spec_SizeOf.f k x135000 x135001 x135002 x135003).bind fun bt141 => (if x135015 = true then ((spec_PicOk.f x135016 x135017 x135018).bind fun t143 => (if t143 = true then (if x135016 = bt141.1 then (some (x135017 == bt141.2)) else (some false)) else (some false))) else (if x135016 = 0 then (if x135017 = 0 then (some ((x135018.size : Int) == 0)) else (some false)) else (some false))))
end
def spec_SourceOk.f (k : Nat) (a0_0 : Int) (a0_1 : Int) (l0_2 : List Int) (l0_3 : List Int) (a0_4 : Int) (a0_5 : Bool) (a0_6 : Bool) (a0_7 : Bool) (a0_8 : Int) (a0_9 : Int) (a0_10 : Int) (a0_11 : Int) (a0_12 : Int) (a0_13 : Int) (a0_14 : Int) (a0_15 : Bool) (a0_16 : Int) (a0_17 : Int) (a0_18 : ByteArray) : Option (Bool) := (spec_TilesOf.f k a0_0 a0_1 l0_2 l0_3).bind fun t135 => (if t135 = 1 then ((spec_ParOk.f a0_4 a0_5 a0_6 a0_7).bind fun t136 => (if t136 = true then ((spec_RateOk.f a0_8 a0_9 a0_10).bind fun t137 => (if t137 = true then (if a0_11 < 0 then (spec_SourceOk.j0 k true a0_0 a0_1 l0_2 l0_3 a0_4 a0_5 a0_6 a0_7 a0_8 a0_9 a0_10 a0_11 a0_12 a0_13 a0_14 a0_15 a0_16 a0_17 a0_18) else (if 0 ≤ (IntKind.u64.wrap (a0_1)) then (spec_SourceOk.j0 k (decide (a0_11 ≥ (shl .i64 1 (IntKind.u64.wrap (a0_1))))) a0_0 a0_1 l0_2 l0_3 a0_4 a0_5 a0_6 a0_7 a0_8 a0_9 a0_10 a0_11 a0_12 a0_13 a0_14 a0_15 a0_16 a0_17 a0_18) else (none))) else (spec_SourceOk.j0 k true a0_0 a0_1 l0_2 l0_3 a0_4 a0_5 a0_6 a0_7 a0_8 a0_9 a0_10 a0_11 a0_12 a0_13 a0_14 a0_15 a0_16 a0_17 a0_18))) else (spec_SourceOk.j0 k true a0_0 a0_1 l0_2 l0_3 a0_4 a0_5 a0_6 a0_7 a0_8 a0_9 a0_10 a0_11 a0_12 a0_13 a0_14 a0_15 a0_16 a0_17 a0_18))) else (spec_SourceOk.j0 k true a0_0 a0_1 l0_2 l0_3 a0_4 a0_5 a0_6 a0_7 a0_8 a0_9 a0_10 a0_11 a0_12 a0_13 a0_14 a0_15 a0_16 a0_17 a0_18))
theorem spec_SourceOk.mono_l : ∀ k, (∀ y0 y1 y2 y3 y4 y5 y6 y7 y8 y9 y10 y11 y12 y13 y14 y15 y16 y17 y18 y19, LeO (spec_SourceOk.j0 k y0 y1 y2 y3 y4 y5 y6 y7 y8 y9 y10 y11 y12 y13 y14 y15 y16 y17 y18 y19) (spec_SourceOk.j0 (k + 1) y0 y1 y2 y3 y4 y5 y6 y7 y8 y9 y10 y11 y12 y13 y14 y15 y16 y17 y18 y19)) ∧ (∀ y0 y1 y2 y3 y4 y5 y6 y7 y8 y9 y10 y11 y12 y13 y14 y15 y16 y17 y18 y19, LeO (spec_SourceOk.j1 k y0 y1 y2 y3 y4 y5 y6 y7 y8 y9 y10 y11 y12 y13 y14 y15 y16 y17 y18 y19) (spec_SourceOk.j1 (k + 1) y0 y1 y2 y3 y4 y5 y6 y7 y8 y9 y10 y11 y12 y13 y14 y15 y16 y17 y18 y19))
  | 0 => ⟨fun _ _ _ _ _ _ _ _ _ _ _ _ _ _ _ _ _ _ _ _ r h => by simp [spec_SourceOk.j0] at h, fun _ _ _ _ _ _ _ _ _ _ _ _ _ _ _ _ _ _ _ _ r h => by simp [spec_SourceOk.j1] at h⟩
  | k + 1 => by
    obtain ⟨ih0, ih1⟩ := spec_SourceOk.mono_l k
    refine ⟨?_, ?_⟩
    · intro y0 y1 y2 y3 y4 y5 y6 y7 y8 y9 y10 y11 y12 y13 y14 y15 y16 y17 y18 y19
      unfold spec_SourceOk.j0
      repeat' first
      | (with_reducible exact ih0 _ _ _ _ _ _ _ _ _ _ _ _ _ _ _ _ _ _ _ _)
      | (with_reducible exact ih1 _ _ _ _ _ _ _ _ _ _ _ _ _ _ _ _ _ _ _ _)
      | (with_reducible exact spec_SizeOf.mono _ _ _ _ _)
      | (with_reducible exact spec_TilesOf.mono _ _ _ _ _)
      | (with_reducible exact LeO.refl _)
      | (with_reducible exact LeO.none _)
      | (with_reducible refine LeO.ite ?_ ?_)
      | (with_reducible refine LeO.bind ?_ (fun _ => ?_))
      | exact ih0 _ _ _ _ _ _ _ _ _ _ _ _ _ _ _ _ _ _ _ _
      | exact ih1 _ _ _ _ _ _ _ _ _ _ _ _ _ _ _ _ _ _ _ _
      | exact spec_SizeOf.mono _ _ _ _ _
      | exact spec_TilesOf.mono _ _ _ _ _
      | exact LeO.none _
      | refine LeO.ite ?_ ?_
      | refine LeO.bind ?_ (fun _ => ?_)
    · intro y0 y1 y2 y3 y4 y5 y6 y7 y8 y9 y10 y11 y12 y13 y14 y15 y16 y17 y18 y19
      unfold spec_SourceOk.j1
      repeat' first
      | (with_reducible exact ih0 _ _ _ _ _ _ _ _ _ _ _ _ _ _ _ _ _ _ _ _)
      | (with_reducible exact ih1 _ _ _ _ _ _ _ _ _ _ _ _ _ _ _ _ _ _ _ _)
      | (with_reducible exact spec_SizeOf.mono _ _ _ _ _)
      | (with_reducible exact spec_TilesOf.mono _ _ _ _ _)
      | (with_reducible exact LeO.refl _)
      | (with_reducible exact LeO.none _)
      | (with_reducible refine LeO.ite ?_ ?_)
      | (with_reducible refine LeO.bind ?_ (fun _ => ?_))
      | exact ih0 _ _ _ _ _ _ _ _ _ _ _ _ _ _ _ _ _ _ _ _
      | exact ih1 _ _ _ _ _ _ _ _ _ _ _ _ _ _ _ _ _ _ _ _
      | exact spec_SizeOf.mono _ _ _ _ _
      | exact spec_TilesOf.mono _ _ _ _ _
      | exact LeO.none _
      | refine LeO.ite ?_ ?_
      | refine LeO.bind ?_ (fun _ => ?_)
theorem spec_SourceOk.mono : ∀ a0 a1 a2 a3 a4 a5 a6 a7 a8 a9 a10 a11 a12 a13 a14 a15 a16 a17 a18 k, LeO (spec_SourceOk.f k a0 a1 a2 a3 a4 a5 a6 a7 a8 a9 a10 a11 a12 a13 a14 a15 a16 a17 a18) (spec_SourceOk.f (k + 1) a0 a1 a2 a3 a4 a5 a6 a7 a8 a9 a10 a11 a12 a13 a14 a15 a16 a17 a18) := by
  intro a0 a1 a2 a3 a4 a5 a6 a7 a8 a9 a10 a11 a12 a13 a14 a15 a16 a17 a18 k
  obtain ⟨ih0, ih1⟩ := spec_SourceOk.mono_l k
  unfold spec_SourceOk.f
  repeat' first
      | (with_reducible exact ih0 _ _ _ _ _ _ _ _ _ _ _ _ _ _ _ _ _ _ _ _)
      | (with_reducible exact ih1 _ _ _ _ _ _ _ _ _ _ _ _ _ _ _ _ _ _ _ _)
      | (with_reducible exact spec_SizeOf.mono _ _ _ _ _)
      | (with_reducible exact spec_TilesOf.mono _ _ _ _ _)
      | (with_reducible exact LeO.refl _)
      | (with_reducible exact LeO.none _)
      | (with_reducible refine LeO.ite ?_ ?_)
      | (with_reducible refine LeO.bind ?_ (fun _ => ?_))
      | exact ih0 _ _ _ _ _ _ _ _ _ _ _ _ _ _ _ _ _ _ _ _
      | exact ih1 _ _ _ _ _ _ _ _ _ _ _ _ _ _ _ _ _ _ _ _
      | exact spec_SizeOf.mono _ _ _ _ _
      | exact spec_TilesOf.mono _ _ _ _ _
      | exact LeO.none _
      | refine LeO.ite ?_ ?_
      | refine LeO.bind ?_ (fun _ => ?_)
set_option maxHeartbeats 8000000 in
set_option maxRecDepth 100000 in
theorem spec_SourceOk.calls (k : Nat) (a0_0 : Int) (a0_1 : Int) (A0_2 : Option Addr) (c0_2 : Nat) (l0_2 : List Int) (A0_3 : Option Addr) (c0_3 : Nat) (l0_3 : List Int) (a0_4 : Int) (a0_5 : Bool) (a0_6 : Bool) (a0_7 : Bool) (a0_8 : Int) (a0_9 : Int) (a0_10 : Int) (a0_11 : Int) (a0_12 : Int) (a0_13 : Int) (a0_14 : Int) (a0_15 : Bool) (a0_16 : Int) (a0_17 : Int) (a0_18 : ByteArray) (r : Bool) (w : World) (hr0_2 : Kd.C (Kd.int .i64) w A0_2 l0_2.length l0_2) (hc0_2 : l0_2.length ≤ c0_2) (hr0_3 : Kd.C (Kd.int .i64) w A0_3 l0_3.length l0_3) (hc0_3 : l0_3.length ≤ c0_3) (h : spec_SourceOk.f k a0_0 a0_1 l0_2 l0_3 a0_4 a0_5 a0_6 a0_7 a0_8 a0_9 a0_10 a0_11 a0_12 a0_13 a0_14 a0_15 a0_16 a0_17 a0_18 = some r) :
    Calls Try.prog 71 #[.agg #[.int .i64 a0_0, .int .i64 a0_1, .slice A0_2 l0_2.length c0_2, .slice A0_3 l0_3.length c0_3, .int .i64 a0_4, .bool a0_5, .bool a0_6, .bool a0_7, .int .i64 a0_8, .int .i64 a0_9, .int .i64 a0_10, .int .i64 a0_11, .int .i64 a0_12, .int .i64 a0_13, .int .i64 a0_14, .bool a0_15, .int .i64 a0_16, .int .i64 a0_17, .string a0_18]] w fun e w' => e = .returned (.bool r) ∧ Below w.heap.size w w' := by
  have hu85 := Try.underlying85
  have hu35 := Try.underlying35
  have hu37 := Try.underlying37
  have hu25 := Try.underlying25
  have hu39 := Try.underlying39
  have HR0_2 := Aside0.mk hr0_2
  have HC0_2 := Aside0.mk hc0_2
  clear hr0_2 hc0_2
  have HR0_3 := Aside0.mk hr0_3
  have HC0_3 := Aside0.mk hc0_3
  clear hr0_3 hc0_3
  have HB := Aside0.mk (Below.refl w.heap.size w)
  have H : ((spec_TilesOf.f k a0_0 a0_1 l0_2 l0_3).bind fun t135 => (if t135 = 1 then ((spec_ParOk.f a0_4 a0_5 a0_6 a0_7).bind fun t136 => (if t136 = true then ((spec_RateOk.f a0_8 a0_9 a0_10).bind fun t137 => (if t137 = true then (if a0_11 < 0 then (spec_SourceOk.j0 k true a0_0 a0_1 l0_2 l0_3 a0_4 a0_5 a0_6 a0_7 a0_8 a0_9 a0_10 a0_11 a0_12 a0_13 a0_14 a0_15 a0_16 a0_17 a0_18) else (if 0 ≤ (IntKind.u64.wrap (a0_1)) then (spec_SourceOk.j0 k (decide (a0_11 ≥ (shl .i64 1 (IntKind.u64.wrap (a0_1))))) a0_0 a0_1 l0_2 l0_3 a0_4 a0_5 a0_6 a0_7 a0_8 a0_9 a0_10 a0_11 a0_12 a0_13 a0_14 a0_15 a0_16 a0_17 a0_18) else (none))) else (spec_SourceOk.j0 k true a0_0 a0_1 l0_2 l0_3 a0_4 a0_5 a0_6 a0_7 a0_8 a0_9 a0_10 a0_11 a0_12 a0_13 a0_14 a0_15 a0_16 a0_17 a0_18))) else (spec_SourceOk.j0 k true a0_0 a0_1 l0_2 l0_3 a0_4 a0_5 a0_6 a0_7 a0_8 a0_9 a0_10 a0_11 a0_12 a0_13 a0_14 a0_15 a0_16 a0_17 a0_18))) else (spec_SourceOk.j0 k true a0_0 a0_1 l0_2 l0_3 a0_4 a0_5 a0_6 a0_7 a0_8 a0_9 a0_10 a0_11 a0_12 a0_13 a0_14 a0_15 a0_16 a0_17 a0_18))) = some r := h
  clear h
  have HC2 := Aside0.mk H
  clear H
  go_enter Try.func71, Try.ntmps71
  go_upto_region 1 with (first | ((with_reducible refine gate_dst (N := 1) rfl ?_); (try (refine gate_guard (by rfl) ?_; dsimp only)); refine box_event ?hg (N := 1) ?hd (cs := #[.int .i64 a0_0, .int .i64 a0_1, .slice A0_2 l0_2.length c0_2, .slice A0_3 l0_3.length c0_3, .int .i64 a0_4, .bool a0_5, .bool a0_6, .bool a0_7, .int .i64 a0_8, .int .i64 a0_9, .int .i64 a0_10, .int .i64 a0_11, .int .i64 a0_12, .int .i64 a0_13, .int .i64 a0_14, .bool a0_15, .int .i64 a0_16, .int .i64 a0_17, .string a0_18]) (t := 85) ?hr ?_; (case hd => rfl); (case hg => rfl); (case hr => first | (go_simp; done) | (go_simp; rfl)); intro gb134 hg w3 hbox hb; have n0_ := bs HB hb; have n1_ := Aside0.mk (hbox); have n2_ := bz hg; have n3_ := bz hg; clear HB; have HB := n0_; have BK134 := n1_; have GW134 := n2_; have GE134 := n3_; clear n0_ n1_ n2_ n3_; clear hb hbox hg))
  (try simp only [Act.put, List.setIfInBounds_toArray, List.set_cons_zero, List.set_cons_succ])
  go_cut [35] (fun v35 wc => ∃ (kq : Nat) (x35_1 : Bool), v35 = .bool x35_1 ∧ Aside0 (spec_SourceOk.j0 kq x35_1 a0_0 a0_1 l0_2 l0_3 a0_4 a0_5 a0_6 a0_7 a0_8 a0_9 a0_10 a0_11 a0_12 a0_13 a0_14 a0_15 a0_16 a0_17 a0_18 = some r) ∧ Aside0 (kq ≤ k) ∧ Aside0 (wc.heap[gb134]? = some (.cells #[.int .i64 a0_0, .int .i64 a0_1, (.slice A0_2 l0_2.length c0_2), (.slice A0_3 l0_3.length c0_3), .int .i64 a0_4, .bool a0_5, .bool a0_6, .bool a0_7, .int .i64 a0_8, .int .i64 a0_9, .int .i64 a0_10, .int .i64 a0_11, .int .i64 a0_12, .int .i64 a0_13, .int .i64 a0_14, .bool a0_15, .int .i64 a0_16, .int .i64 a0_17, .string a0_18] 85 (0, 0))) ∧ Aside0 (Below w.heap.size w wc))
  case first =>
    have H := HC2.out
    clear HC2
    replace H := Option.bind_eq_some_iff.mp H
    obtain ⟨t135, A40, H⟩ := H
    (try dsimp only at H)
    have A4 := Aside0.mk A40
    clear A40
    by_cases c5 : t135 = 1
    · rw [if_pos c5] at H
      have c5b0 : (t135 == 1) = true := beq_iff_eq.mpr c5
      have c5b1 : (t135 != 1) = false := bne_eq_false_iff_eq.mpr c5
      clear c5
      (first | rw [c5b0] | (simp only [i64_w, i32_w]; rw [c5b0]) | skip)
      replace H := Option.bind_eq_some_iff.mp H
      obtain ⟨t136, A60, H⟩ := H
      (try dsimp only at H)
      have A6 := Aside0.mk A60
      clear A60
      by_cases c7 : t136 = true
      · subst c7
        rw [if_pos rfl] at H
        replace H := Option.bind_eq_some_iff.mp H
        obtain ⟨t137, A80, H⟩ := H
        (try dsimp only at H)
        have A8 := Aside0.mk A80
        clear A80
        by_cases c9 : t137 = true
        · subst c9
          rw [if_pos rfl] at H
          by_cases c10 : a0_11 < 0
          · rw [if_pos c10] at H
            have c10b0 : decide (a0_11 < 0) = true := decide_eq_true c10
            clear c10
            have H' := Aside0.mk H
            clear H
            have hcz11_0 : ∀ i, w3.cell? ⟨gb134, i, none⟩ = _ := blk_cell BK134.out
            have hcz11_1 : w3.cell? ⟨gb134, 1, none⟩ = some (.int .i64 a0_1) := (blk_cell BK134.out 1).trans rfl
            have hcz11_2 : w3.cell? ⟨gb134, 2, none⟩ = some (.slice A0_2 l0_2.length c0_2) := (blk_cell BK134.out 2).trans rfl
            have hcz11_3 : w3.cell? ⟨gb134, 3, none⟩ = some (.slice A0_3 l0_3.length c0_3) := (blk_cell BK134.out 3).trans rfl
            have hcz11_4 : w3.cell? ⟨gb134, 4, none⟩ = some (.int .i64 a0_4) := (blk_cell BK134.out 4).trans rfl
            have hcz11_5 : w3.cell? ⟨gb134, 5, none⟩ = some (.bool a0_5) := (blk_cell BK134.out 5).trans rfl
            have hcz11_6 : w3.cell? ⟨gb134, 6, none⟩ = some (.bool a0_6) := (blk_cell BK134.out 6).trans rfl
            have hcz11_7 : w3.cell? ⟨gb134, 7, none⟩ = some (.bool a0_7) := (blk_cell BK134.out 7).trans rfl
            have hcz11_8 : w3.cell? ⟨gb134, 8, none⟩ = some (.int .i64 a0_8) := (blk_cell BK134.out 8).trans rfl
            have hcz11_9 : w3.cell? ⟨gb134, 9, none⟩ = some (.int .i64 a0_9) := (blk_cell BK134.out 9).trans rfl
            have hcz11_10 : w3.cell? ⟨gb134, 10, none⟩ = some (.int .i64 a0_10) := (blk_cell BK134.out 10).trans rfl
            have hcz11_11 : w3.cell? ⟨gb134, 11, none⟩ = some (.int .i64 a0_11) := (blk_cell BK134.out 11).trans rfl
            have hcz11_12 : w3.cell? ⟨gb134, 12, none⟩ = some (.int .i64 a0_12) := (blk_cell BK134.out 12).trans rfl
            have hcz11_13 : w3.cell? ⟨gb134, 13, none⟩ = some (.int .i64 a0_13) := (blk_cell BK134.out 13).trans rfl
            have hcz11_14 : w3.cell? ⟨gb134, 14, none⟩ = some (.int .i64 a0_14) := (blk_cell BK134.out 14).trans rfl
            have hcz11_15 : w3.cell? ⟨gb134, 15, none⟩ = some (.bool a0_15) := (blk_cell BK134.out 15).trans rfl
            have hcz11_16 : w3.cell? ⟨gb134, 16, none⟩ = some (.int .i64 a0_16) := (blk_cell BK134.out 16).trans rfl
            have hcz11_17 : w3.cell? ⟨gb134, 17, none⟩ = some (.int .i64 a0_17) := (blk_cell BK134.out 17).trans rfl
            have hcz11_18 : w3.cell? ⟨gb134, 18, none⟩ = some (.string a0_18) := (blk_cell BK134.out 18).trans rfl
            have hfz11_0 := blk_frozen BK134.out
            have hfz11_1 := blk_frozen BK134.out 1
            have hfz11_2 := blk_frozen BK134.out 2
            have hfz11_3 := blk_frozen BK134.out 3
            have hfz11_4 := blk_frozen BK134.out 4
            have hfz11_5 := blk_frozen BK134.out 5
            have hfz11_6 := blk_frozen BK134.out 6
            have hfz11_7 := blk_frozen BK134.out 7
            have hfz11_8 := blk_frozen BK134.out 8
            have hfz11_9 := blk_frozen BK134.out 9
            have hfz11_10 := blk_frozen BK134.out 10
            have hfz11_11 := blk_frozen BK134.out 11
            have hfz11_12 := blk_frozen BK134.out 12
            have hfz11_13 := blk_frozen BK134.out 13
            have hfz11_14 := blk_frozen BK134.out 14
            have hfz11_15 := blk_frozen BK134.out 15
            have hfz11_16 := blk_frozen BK134.out 16
            have hfz11_17 := blk_frozen BK134.out 17
            have hfz11_18 := blk_frozen BK134.out 18
            go_wp2_with (first | ((with_reducible refine gate_load (t := 85) rfl ?_); refine load_all (g := gb134) (ty := 85) rfl rfl rfl (bx BK134.out) (by kernel_rfl) (by kernel_rfl) ?_; simp only [Act.put, List.setIfInBounds_toArray, List.set_cons_zero, List.set_cons_succ]) | ((with_reducible refine gate_callee (f := 114) rfl ?_); refine goesL_ (some 7) rfl rfl Try.func114 (by kernel_rfl) rfl #[.agg #[.int .i64 a0_0, .int .i64 a0_1, .slice A0_2 l0_2.length c0_2, .slice A0_3 l0_3.length c0_3]] rfl (by (try simp only [List.map_toArray, List.map_cons, List.map_nil]); first | done | rfl | (simp only [List.length_drop, List.length_take]; rfl)) ?_; (with_reducible refine (spec_TilesOf.calls k a0_0 a0_1 _ _ l0_2 _ _ l0_3 t135 _ ?side1 ?side2 ?side3 ?side4 A4.out).mono ?_); (case side1 => repeat (first | exact (Kd.C_below HR0_2.out HB.out) | (with_reducible refine Kd.C_alloc ?_ _) | (with_reducible refine Kd.C_drewN ?_ _) | (with_reducible refine Kd.C_drew ?_))); (case side2 => exact HC0_2.out); (case side3 => repeat (first | exact (Kd.C_below HR0_3.out HB.out) | (with_reducible refine Kd.C_alloc ?_ _) | (with_reducible refine Kd.C_drewN ?_ _) | (with_reducible refine Kd.C_drew ?_))); (case side4 => exact HC0_3.out); rintro e w12 ⟨rfl, hb⟩; refine ⟨_, rfl, ?_⟩; have n0_ := Aside0.mk (blk_below (bx BK134.out) hb); have n1_ := bs HB hb; clear BK134; clear HB; have BK134 := n0_; have HB := n1_; clear n0_ n1_; (try clear hb); (try clear hb2); (try clear hk); (try clear hi); have hcz13_0 : ∀ i, w12.cell? ⟨gb134, i, none⟩ = _ := blk_cell BK134.out; have hfz13_0 := blk_frozen BK134.out) | (go_at_call 84; (with_reducible refine (spec_ParOk.calls a0_4 a0_5 a0_6 a0_7 true _ A6.out).mono ?_); rintro e w14 ⟨rfl, hb⟩; have n0_ := Aside0.mk (blk_below (bx BK134.out) hb); have n1_ := bs HB hb; clear BK134; clear HB; have BK134 := n0_; have HB := n1_; clear n0_ n1_; (try clear hb); (try clear hb2); (try clear hk); (try clear hi); have hcz15_0 : ∀ i, w14.cell? ⟨gb134, i, none⟩ = _ := blk_cell BK134.out; have hfz15_0 := blk_frozen BK134.out) | (go_at_call 134; (with_reducible refine (spec_RateOk.calls a0_8 a0_9 a0_10 true _ A8.out).mono ?_); rintro e w16 ⟨rfl, hb⟩; have n0_ := Aside0.mk (blk_below (bx BK134.out) hb); have n1_ := bs HB hb; clear BK134; clear HB; have BK134 := n0_; have HB := n1_; clear n0_ n1_; (try clear hb); (try clear hb2); (try clear hk); (try clear hi); have hcz17_0 : ∀ i, w16.cell? ⟨gb134, i, none⟩ = _ := blk_cell BK134.out; have hfz17_0 := blk_frozen BK134.out))
            go_meet
            case rel => exact ⟨_, (true), (by first | rfl | (simp; done) | (simp [*]; done)), H', ⟨by first | omega | exact Nat.le_refl _⟩, ⟨by (with_reducible repeat (first | refine blk_drewN ?_ _ | refine blk_drew ?_ | refine blk_alloc ?_ _)); exact BK134.out⟩, ⟨bl⟩⟩
          · rw [if_neg c10] at H
            have c10b0 : decide (a0_11 < 0) = false := decide_eq_false c10
            clear c10
            obtain ⟨ji18, hji18⟩ : ∃ j_ : Int, (IntKind.u64.wrap (a0_1)) = j_ := ⟨_, rfl⟩
            replace H : (if 0 ≤ (ji18) then (spec_SourceOk.j0 k (decide (a0_11 ≥ (shl .i64 1 (ji18)))) a0_0 a0_1 l0_2 l0_3 a0_4 a0_5 a0_6 a0_7 a0_8 a0_9 a0_10 a0_11 a0_12 a0_13 a0_14 a0_15 a0_16 a0_17 a0_18) else (none)) = some r := by first | (rw [hji18] at H; exact H) | (simp only [hji18] at H ⊢; exact H)
            (try rw [hji18] at A4)
            (try rw [hji18] at A6)
            (try rw [hji18] at A8)
            by_cases c19 : 0 ≤ (ji18)
            · rw [if_pos c19] at H
              have c19b0 := eq_true c19
              have c19b1 : decide (0 ≤ (ji18)) = true := decide_eq_true c19
              clear c19
              obtain ⟨ji20, hji20⟩ : ∃ j_ : Int, (shl .i64 1 (ji18)) = j_ := ⟨_, rfl⟩
              replace H : (spec_SourceOk.j0 k (decide (a0_11 ≥ (ji20))) a0_0 a0_1 l0_2 l0_3 a0_4 a0_5 a0_6 a0_7 a0_8 a0_9 a0_10 a0_11 a0_12 a0_13 a0_14 a0_15 a0_16 a0_17 a0_18) = some r := by first | (rw [hji20] at H; exact H) | (simp only [hji20] at H ⊢; exact H)
              (try rw [hji20] at A4)
              (try rw [hji20] at A6)
              (try rw [hji20] at A8)
              have hji20_ : (IntKind.i64.wrap (1 * 2 ^ min (ji18).toNat 64)) = ji20 := hji20
              have hji20z : (ji18) ≤ 64 → (IntKind.i64.wrap (1 * 2 ^ (ji18).toNat)) = ji20 := shl_small hji20
              have hji20u : (IntKind.i64.wrap (2 ^ min (ji18).toNat 64)) = ji20 := by have h_ := hji20_; rw [Int.one_mul] at h_; exact h_
              have hji20v : (ji18) ≤ 64 → (IntKind.i64.wrap (2 ^ (ji18).toNat)) = ji20 := fun hle_ => by have h_ := hji20z hle_; rw [Int.one_mul] at h_; exact h_
              have hji20y : (wrap64 (1 * 2 ^ min (ji18).toNat 64)) = ji20 := (i64_w _).symm.trans hji20_
              have hji20x : (ji18) ≤ 64 → (wrap64 (1 * 2 ^ (ji18).toNat)) = ji20 := fun h_ => (i64_w _).symm.trans (hji20z h_)
              have H' := Aside0.mk H
              clear H
              have hcz21_0 : ∀ i, w3.cell? ⟨gb134, i, none⟩ = _ := blk_cell BK134.out
              have hcz21_1 : w3.cell? ⟨gb134, 1, none⟩ = some (.int .i64 a0_1) := (blk_cell BK134.out 1).trans rfl
              have hcz21_2 : w3.cell? ⟨gb134, 2, none⟩ = some (.slice A0_2 l0_2.length c0_2) := (blk_cell BK134.out 2).trans rfl
              have hcz21_3 : w3.cell? ⟨gb134, 3, none⟩ = some (.slice A0_3 l0_3.length c0_3) := (blk_cell BK134.out 3).trans rfl
              have hcz21_4 : w3.cell? ⟨gb134, 4, none⟩ = some (.int .i64 a0_4) := (blk_cell BK134.out 4).trans rfl
              have hcz21_5 : w3.cell? ⟨gb134, 5, none⟩ = some (.bool a0_5) := (blk_cell BK134.out 5).trans rfl
              have hcz21_6 : w3.cell? ⟨gb134, 6, none⟩ = some (.bool a0_6) := (blk_cell BK134.out 6).trans rfl
              have hcz21_7 : w3.cell? ⟨gb134, 7, none⟩ = some (.bool a0_7) := (blk_cell BK134.out 7).trans rfl
              have hcz21_8 : w3.cell? ⟨gb134, 8, none⟩ = some (.int .i64 a0_8) := (blk_cell BK134.out 8).trans rfl
              have hcz21_9 : w3.cell? ⟨gb134, 9, none⟩ = some (.int .i64 a0_9) := (blk_cell BK134.out 9).trans rfl
              have hcz21_10 : w3.cell? ⟨gb134, 10, none⟩ = some (.int .i64 a0_10) := (blk_cell BK134.out 10).trans rfl
              have hcz21_11 : w3.cell? ⟨gb134, 11, none⟩ = some (.int .i64 a0_11) := (blk_cell BK134.out 11).trans rfl
              have hcz21_12 : w3.cell? ⟨gb134, 12, none⟩ = some (.int .i64 a0_12) := (blk_cell BK134.out 12).trans rfl
              have hcz21_13 : w3.cell? ⟨gb134, 13, none⟩ = some (.int .i64 a0_13) := (blk_cell BK134.out 13).trans rfl
              have hcz21_14 : w3.cell? ⟨gb134, 14, none⟩ = some (.int .i64 a0_14) := (blk_cell BK134.out 14).trans rfl
              have hcz21_15 : w3.cell? ⟨gb134, 15, none⟩ = some (.bool a0_15) := (blk_cell BK134.out 15).trans rfl
              have hcz21_16 : w3.cell? ⟨gb134, 16, none⟩ = some (.int .i64 a0_16) := (blk_cell BK134.out 16).trans rfl
              have hcz21_17 : w3.cell? ⟨gb134, 17, none⟩ = some (.int .i64 a0_17) := (blk_cell BK134.out 17).trans rfl
              have hcz21_18 : w3.cell? ⟨gb134, 18, none⟩ = some (.string a0_18) := (blk_cell BK134.out 18).trans rfl
              have hfz21_0 := blk_frozen BK134.out
              have hfz21_1 := blk_frozen BK134.out 1
              have hfz21_2 := blk_frozen BK134.out 2
              have hfz21_3 := blk_frozen BK134.out 3
              have hfz21_4 := blk_frozen BK134.out 4
              have hfz21_5 := blk_frozen BK134.out 5
              have hfz21_6 := blk_frozen BK134.out 6
              have hfz21_7 := blk_frozen BK134.out 7
              have hfz21_8 := blk_frozen BK134.out 8
              have hfz21_9 := blk_frozen BK134.out 9
              have hfz21_10 := blk_frozen BK134.out 10
              have hfz21_11 := blk_frozen BK134.out 11
              have hfz21_12 := blk_frozen BK134.out 12
              have hfz21_13 := blk_frozen BK134.out 13
              have hfz21_14 := blk_frozen BK134.out 14
              have hfz21_15 := blk_frozen BK134.out 15
              have hfz21_16 := blk_frozen BK134.out 16
              have hfz21_17 := blk_frozen BK134.out 17
              have hfz21_18 := blk_frozen BK134.out 18
              go_wp2_with (first | ((with_reducible refine gate_load (t := 85) rfl ?_); refine load_all (g := gb134) (ty := 85) rfl rfl rfl (bx BK134.out) (by kernel_rfl) (by kernel_rfl) ?_; simp only [Act.put, List.setIfInBounds_toArray, List.set_cons_zero, List.set_cons_succ]) | ((with_reducible refine gate_callee (f := 114) rfl ?_); refine goesL_ (some 7) rfl rfl Try.func114 (by kernel_rfl) rfl #[.agg #[.int .i64 a0_0, .int .i64 a0_1, .slice A0_2 l0_2.length c0_2, .slice A0_3 l0_3.length c0_3]] rfl (by (try simp only [List.map_toArray, List.map_cons, List.map_nil]); first | done | rfl | (simp only [List.length_drop, List.length_take]; rfl)) ?_; (with_reducible refine (spec_TilesOf.calls k a0_0 a0_1 _ _ l0_2 _ _ l0_3 t135 _ ?side1 ?side2 ?side3 ?side4 A4.out).mono ?_); (case side1 => repeat (first | exact (Kd.C_below HR0_2.out HB.out) | (with_reducible refine Kd.C_alloc ?_ _) | (with_reducible refine Kd.C_drewN ?_ _) | (with_reducible refine Kd.C_drew ?_))); (case side2 => exact HC0_2.out); (case side3 => repeat (first | exact (Kd.C_below HR0_3.out HB.out) | (with_reducible refine Kd.C_alloc ?_ _) | (with_reducible refine Kd.C_drewN ?_ _) | (with_reducible refine Kd.C_drew ?_))); (case side4 => exact HC0_3.out); rintro e w22 ⟨rfl, hb⟩; refine ⟨_, rfl, ?_⟩; have n0_ := Aside0.mk (blk_below (bx BK134.out) hb); have n1_ := bs HB hb; clear BK134; clear HB; have BK134 := n0_; have HB := n1_; clear n0_ n1_; (try clear hb); (try clear hb2); (try clear hk); (try clear hi); have hcz23_0 : ∀ i, w22.cell? ⟨gb134, i, none⟩ = _ := blk_cell BK134.out; have hfz23_0 := blk_frozen BK134.out) | (go_at_call 84; (with_reducible refine (spec_ParOk.calls a0_4 a0_5 a0_6 a0_7 true _ A6.out).mono ?_); rintro e w24 ⟨rfl, hb⟩; have n0_ := Aside0.mk (blk_below (bx BK134.out) hb); have n1_ := bs HB hb; clear BK134; clear HB; have BK134 := n0_; have HB := n1_; clear n0_ n1_; (try clear hb); (try clear hb2); (try clear hk); (try clear hi); have hcz25_0 : ∀ i, w24.cell? ⟨gb134, i, none⟩ = _ := blk_cell BK134.out; have hfz25_0 := blk_frozen BK134.out) | (go_at_call 134; (with_reducible refine (spec_RateOk.calls a0_8 a0_9 a0_10 true _ A8.out).mono ?_); rintro e w26 ⟨rfl, hb⟩; have n0_ := Aside0.mk (blk_below (bx BK134.out) hb); have n1_ := bs HB hb; clear BK134; clear HB; have BK134 := n0_; have HB := n1_; clear n0_ n1_; (try clear hb); (try clear hb2); (try clear hk); (try clear hi); have hcz27_0 : ∀ i, w26.cell? ⟨gb134, i, none⟩ = _ := blk_cell BK134.out; have hfz27_0 := blk_frozen BK134.out))
              go_meet
              case rel => exact ⟨_, (decide (a0_11 ≥ (ji20))), (by first | rfl | (simp; done) | (simp only [← hji20] <;> (first | rfl | simp)) | (simp [*]; done)), H', ⟨by first | omega | exact Nat.le_refl _⟩, ⟨by (with_reducible repeat (first | refine blk_drewN ?_ _ | refine blk_drew ?_ | refine blk_alloc ?_ _)); exact BK134.out⟩, ⟨bl⟩⟩
            · rw [if_neg c19] at H
              exact absurd H (by simp)
        · replace c9 := Bool.eq_false_iff.mpr c9
          subst c9
          have H1 : (spec_SourceOk.j0 k true a0_0 a0_1 l0_2 l0_3 a0_4 a0_5 a0_6 a0_7 a0_8 a0_9 a0_10 a0_11 a0_12 a0_13 a0_14 a0_15 a0_16 a0_17 a0_18) = some r := by rw [if_neg (show ¬ (false = true) by decide)] at H; exact H
          clear H
          have H := H1
          clear H1
          have H' := Aside0.mk H
          clear H
          have hcz28_0 : ∀ i, w3.cell? ⟨gb134, i, none⟩ = _ := blk_cell BK134.out
          have hcz28_1 : w3.cell? ⟨gb134, 1, none⟩ = some (.int .i64 a0_1) := (blk_cell BK134.out 1).trans rfl
          have hcz28_2 : w3.cell? ⟨gb134, 2, none⟩ = some (.slice A0_2 l0_2.length c0_2) := (blk_cell BK134.out 2).trans rfl
          have hcz28_3 : w3.cell? ⟨gb134, 3, none⟩ = some (.slice A0_3 l0_3.length c0_3) := (blk_cell BK134.out 3).trans rfl
          have hcz28_4 : w3.cell? ⟨gb134, 4, none⟩ = some (.int .i64 a0_4) := (blk_cell BK134.out 4).trans rfl
          have hcz28_5 : w3.cell? ⟨gb134, 5, none⟩ = some (.bool a0_5) := (blk_cell BK134.out 5).trans rfl
          have hcz28_6 : w3.cell? ⟨gb134, 6, none⟩ = some (.bool a0_6) := (blk_cell BK134.out 6).trans rfl
          have hcz28_7 : w3.cell? ⟨gb134, 7, none⟩ = some (.bool a0_7) := (blk_cell BK134.out 7).trans rfl
          have hcz28_8 : w3.cell? ⟨gb134, 8, none⟩ = some (.int .i64 a0_8) := (blk_cell BK134.out 8).trans rfl
          have hcz28_9 : w3.cell? ⟨gb134, 9, none⟩ = some (.int .i64 a0_9) := (blk_cell BK134.out 9).trans rfl
          have hcz28_10 : w3.cell? ⟨gb134, 10, none⟩ = some (.int .i64 a0_10) := (blk_cell BK134.out 10).trans rfl
          have hcz28_11 : w3.cell? ⟨gb134, 11, none⟩ = some (.int .i64 a0_11) := (blk_cell BK134.out 11).trans rfl
          have hcz28_12 : w3.cell? ⟨gb134, 12, none⟩ = some (.int .i64 a0_12) := (blk_cell BK134.out 12).trans rfl
          have hcz28_13 : w3.cell? ⟨gb134, 13, none⟩ = some (.int .i64 a0_13) := (blk_cell BK134.out 13).trans rfl
          have hcz28_14 : w3.cell? ⟨gb134, 14, none⟩ = some (.int .i64 a0_14) := (blk_cell BK134.out 14).trans rfl
          have hcz28_15 : w3.cell? ⟨gb134, 15, none⟩ = some (.bool a0_15) := (blk_cell BK134.out 15).trans rfl
          have hcz28_16 : w3.cell? ⟨gb134, 16, none⟩ = some (.int .i64 a0_16) := (blk_cell BK134.out 16).trans rfl
          have hcz28_17 : w3.cell? ⟨gb134, 17, none⟩ = some (.int .i64 a0_17) := (blk_cell BK134.out 17).trans rfl
          have hcz28_18 : w3.cell? ⟨gb134, 18, none⟩ = some (.string a0_18) := (blk_cell BK134.out 18).trans rfl
          have hfz28_0 := blk_frozen BK134.out
          have hfz28_1 := blk_frozen BK134.out 1
          have hfz28_2 := blk_frozen BK134.out 2
          have hfz28_3 := blk_frozen BK134.out 3
          have hfz28_4 := blk_frozen BK134.out 4
          have hfz28_5 := blk_frozen BK134.out 5
          have hfz28_6 := blk_frozen BK134.out 6
          have hfz28_7 := blk_frozen BK134.out 7
          have hfz28_8 := blk_frozen BK134.out 8
          have hfz28_9 := blk_frozen BK134.out 9
          have hfz28_10 := blk_frozen BK134.out 10
          have hfz28_11 := blk_frozen BK134.out 11
          have hfz28_12 := blk_frozen BK134.out 12
          have hfz28_13 := blk_frozen BK134.out 13
          have hfz28_14 := blk_frozen BK134.out 14
          have hfz28_15 := blk_frozen BK134.out 15
          have hfz28_16 := blk_frozen BK134.out 16
          have hfz28_17 := blk_frozen BK134.out 17
          have hfz28_18 := blk_frozen BK134.out 18
          go_wp2_with (first | ((with_reducible refine gate_load (t := 85) rfl ?_); refine load_all (g := gb134) (ty := 85) rfl rfl rfl (bx BK134.out) (by kernel_rfl) (by kernel_rfl) ?_; simp only [Act.put, List.setIfInBounds_toArray, List.set_cons_zero, List.set_cons_succ]) | ((with_reducible refine gate_callee (f := 114) rfl ?_); refine goesL_ (some 7) rfl rfl Try.func114 (by kernel_rfl) rfl #[.agg #[.int .i64 a0_0, .int .i64 a0_1, .slice A0_2 l0_2.length c0_2, .slice A0_3 l0_3.length c0_3]] rfl (by (try simp only [List.map_toArray, List.map_cons, List.map_nil]); first | done | rfl | (simp only [List.length_drop, List.length_take]; rfl)) ?_; (with_reducible refine (spec_TilesOf.calls k a0_0 a0_1 _ _ l0_2 _ _ l0_3 t135 _ ?side1 ?side2 ?side3 ?side4 A4.out).mono ?_); (case side1 => repeat (first | exact (Kd.C_below HR0_2.out HB.out) | (with_reducible refine Kd.C_alloc ?_ _) | (with_reducible refine Kd.C_drewN ?_ _) | (with_reducible refine Kd.C_drew ?_))); (case side2 => exact HC0_2.out); (case side3 => repeat (first | exact (Kd.C_below HR0_3.out HB.out) | (with_reducible refine Kd.C_alloc ?_ _) | (with_reducible refine Kd.C_drewN ?_ _) | (with_reducible refine Kd.C_drew ?_))); (case side4 => exact HC0_3.out); rintro e w29 ⟨rfl, hb⟩; refine ⟨_, rfl, ?_⟩; have n0_ := Aside0.mk (blk_below (bx BK134.out) hb); have n1_ := bs HB hb; clear BK134; clear HB; have BK134 := n0_; have HB := n1_; clear n0_ n1_; (try clear hb); (try clear hb2); (try clear hk); (try clear hi); have hcz30_0 : ∀ i, w29.cell? ⟨gb134, i, none⟩ = _ := blk_cell BK134.out; have hfz30_0 := blk_frozen BK134.out) | (go_at_call 84; (with_reducible refine (spec_ParOk.calls a0_4 a0_5 a0_6 a0_7 true _ A6.out).mono ?_); rintro e w31 ⟨rfl, hb⟩; have n0_ := Aside0.mk (blk_below (bx BK134.out) hb); have n1_ := bs HB hb; clear BK134; clear HB; have BK134 := n0_; have HB := n1_; clear n0_ n1_; (try clear hb); (try clear hb2); (try clear hk); (try clear hi); have hcz32_0 : ∀ i, w31.cell? ⟨gb134, i, none⟩ = _ := blk_cell BK134.out; have hfz32_0 := blk_frozen BK134.out) | (go_at_call 134; (with_reducible refine (spec_RateOk.calls a0_8 a0_9 a0_10 false _ A8.out).mono ?_); rintro e w33 ⟨rfl, hb⟩; have n0_ := Aside0.mk (blk_below (bx BK134.out) hb); have n1_ := bs HB hb; clear BK134; clear HB; have BK134 := n0_; have HB := n1_; clear n0_ n1_; (try clear hb); (try clear hb2); (try clear hk); (try clear hi)))
          go_meet
          case rel => exact ⟨_, (true), (by first | rfl | (simp; done) | (simp [*]; done)), H', ⟨by first | omega | exact Nat.le_refl _⟩, ⟨by (with_reducible repeat (first | refine blk_drewN ?_ _ | refine blk_drew ?_ | refine blk_alloc ?_ _)); exact BK134.out⟩, ⟨bl⟩⟩
      · replace c7 := Bool.eq_false_iff.mpr c7
        subst c7
        have H1 : (spec_SourceOk.j0 k true a0_0 a0_1 l0_2 l0_3 a0_4 a0_5 a0_6 a0_7 a0_8 a0_9 a0_10 a0_11 a0_12 a0_13 a0_14 a0_15 a0_16 a0_17 a0_18) = some r := by rw [if_neg (show ¬ (false = true) by decide)] at H; exact H
        clear H
        have H := H1
        clear H1
        have H' := Aside0.mk H
        clear H
        have hcz34_0 : ∀ i, w3.cell? ⟨gb134, i, none⟩ = _ := blk_cell BK134.out
        have hcz34_1 : w3.cell? ⟨gb134, 1, none⟩ = some (.int .i64 a0_1) := (blk_cell BK134.out 1).trans rfl
        have hcz34_2 : w3.cell? ⟨gb134, 2, none⟩ = some (.slice A0_2 l0_2.length c0_2) := (blk_cell BK134.out 2).trans rfl
        have hcz34_3 : w3.cell? ⟨gb134, 3, none⟩ = some (.slice A0_3 l0_3.length c0_3) := (blk_cell BK134.out 3).trans rfl
        have hcz34_4 : w3.cell? ⟨gb134, 4, none⟩ = some (.int .i64 a0_4) := (blk_cell BK134.out 4).trans rfl
        have hcz34_5 : w3.cell? ⟨gb134, 5, none⟩ = some (.bool a0_5) := (blk_cell BK134.out 5).trans rfl
        have hcz34_6 : w3.cell? ⟨gb134, 6, none⟩ = some (.bool a0_6) := (blk_cell BK134.out 6).trans rfl
        have hcz34_7 : w3.cell? ⟨gb134, 7, none⟩ = some (.bool a0_7) := (blk_cell BK134.out 7).trans rfl
        have hcz34_8 : w3.cell? ⟨gb134, 8, none⟩ = some (.int .i64 a0_8) := (blk_cell BK134.out 8).trans rfl
        have hcz34_9 : w3.cell? ⟨gb134, 9, none⟩ = some (.int .i64 a0_9) := (blk_cell BK134.out 9).trans rfl
        have hcz34_10 : w3.cell? ⟨gb134, 10, none⟩ = some (.int .i64 a0_10) := (blk_cell BK134.out 10).trans rfl
        have hcz34_11 : w3.cell? ⟨gb134, 11, none⟩ = some (.int .i64 a0_11) := (blk_cell BK134.out 11).trans rfl
        have hcz34_12 : w3.cell? ⟨gb134, 12, none⟩ = some (.int .i64 a0_12) := (blk_cell BK134.out 12).trans rfl
        have hcz34_13 : w3.cell? ⟨gb134, 13, none⟩ = some (.int .i64 a0_13) := (blk_cell BK134.out 13).trans rfl
        have hcz34_14 : w3.cell? ⟨gb134, 14, none⟩ = some (.int .i64 a0_14) := (blk_cell BK134.out 14).trans rfl
        have hcz34_15 : w3.cell? ⟨gb134, 15, none⟩ = some (.bool a0_15) := (blk_cell BK134.out 15).trans rfl
        have hcz34_16 : w3.cell? ⟨gb134, 16, none⟩ = some (.int .i64 a0_16) := (blk_cell BK134.out 16).trans rfl
        have hcz34_17 : w3.cell? ⟨gb134, 17, none⟩ = some (.int .i64 a0_17) := (blk_cell BK134.out 17).trans rfl
        have hcz34_18 : w3.cell? ⟨gb134, 18, none⟩ = some (.string a0_18) := (blk_cell BK134.out 18).trans rfl
        have hfz34_0 := blk_frozen BK134.out
        have hfz34_1 := blk_frozen BK134.out 1
        have hfz34_2 := blk_frozen BK134.out 2
        have hfz34_3 := blk_frozen BK134.out 3
        have hfz34_4 := blk_frozen BK134.out 4
        have hfz34_5 := blk_frozen BK134.out 5
        have hfz34_6 := blk_frozen BK134.out 6
        have hfz34_7 := blk_frozen BK134.out 7
        have hfz34_8 := blk_frozen BK134.out 8
        have hfz34_9 := blk_frozen BK134.out 9
        have hfz34_10 := blk_frozen BK134.out 10
        have hfz34_11 := blk_frozen BK134.out 11
        have hfz34_12 := blk_frozen BK134.out 12
        have hfz34_13 := blk_frozen BK134.out 13
        have hfz34_14 := blk_frozen BK134.out 14
        have hfz34_15 := blk_frozen BK134.out 15
        have hfz34_16 := blk_frozen BK134.out 16
        have hfz34_17 := blk_frozen BK134.out 17
        have hfz34_18 := blk_frozen BK134.out 18
        go_wp2_with (first | ((with_reducible refine gate_load (t := 85) rfl ?_); refine load_all (g := gb134) (ty := 85) rfl rfl rfl (bx BK134.out) (by kernel_rfl) (by kernel_rfl) ?_; simp only [Act.put, List.setIfInBounds_toArray, List.set_cons_zero, List.set_cons_succ]) | ((with_reducible refine gate_callee (f := 114) rfl ?_); refine goesL_ (some 7) rfl rfl Try.func114 (by kernel_rfl) rfl #[.agg #[.int .i64 a0_0, .int .i64 a0_1, .slice A0_2 l0_2.length c0_2, .slice A0_3 l0_3.length c0_3]] rfl (by (try simp only [List.map_toArray, List.map_cons, List.map_nil]); first | done | rfl | (simp only [List.length_drop, List.length_take]; rfl)) ?_; (with_reducible refine (spec_TilesOf.calls k a0_0 a0_1 _ _ l0_2 _ _ l0_3 t135 _ ?side1 ?side2 ?side3 ?side4 A4.out).mono ?_); (case side1 => repeat (first | exact (Kd.C_below HR0_2.out HB.out) | (with_reducible refine Kd.C_alloc ?_ _) | (with_reducible refine Kd.C_drewN ?_ _) | (with_reducible refine Kd.C_drew ?_))); (case side2 => exact HC0_2.out); (case side3 => repeat (first | exact (Kd.C_below HR0_3.out HB.out) | (with_reducible refine Kd.C_alloc ?_ _) | (with_reducible refine Kd.C_drewN ?_ _) | (with_reducible refine Kd.C_drew ?_))); (case side4 => exact HC0_3.out); rintro e w35 ⟨rfl, hb⟩; refine ⟨_, rfl, ?_⟩; have n0_ := Aside0.mk (blk_below (bx BK134.out) hb); have n1_ := bs HB hb; clear BK134; clear HB; have BK134 := n0_; have HB := n1_; clear n0_ n1_; (try clear hb); (try clear hb2); (try clear hk); (try clear hi); have hcz36_0 : ∀ i, w35.cell? ⟨gb134, i, none⟩ = _ := blk_cell BK134.out; have hfz36_0 := blk_frozen BK134.out) | (go_at_call 84; (with_reducible refine (spec_ParOk.calls a0_4 a0_5 a0_6 a0_7 false _ A6.out).mono ?_); rintro e w37 ⟨rfl, hb⟩; have n0_ := Aside0.mk (blk_below (bx BK134.out) hb); have n1_ := bs HB hb; clear BK134; clear HB; have BK134 := n0_; have HB := n1_; clear n0_ n1_; (try clear hb); (try clear hb2); (try clear hk); (try clear hi)))
        go_meet
        case rel => exact ⟨_, (true), (by first | rfl | (simp; done) | (simp [*]; done)), H', ⟨by first | omega | exact Nat.le_refl _⟩, ⟨by (with_reducible repeat (first | refine blk_drewN ?_ _ | refine blk_drew ?_ | refine blk_alloc ?_ _)); exact BK134.out⟩, ⟨bl⟩⟩
    · rw [if_neg c5] at H
      have c5b0 : (t135 == 1) = false := beq_eq_false_iff_ne.mpr c5
      have c5b1 : (t135 != 1) = true := bne_iff_ne.mpr c5
      (first | rw [c5b0] | (simp only [i64_w, i32_w]; rw [c5b0]) | skip)
      have H' := Aside0.mk H
      clear H
      have hcz38_0 : ∀ i, w3.cell? ⟨gb134, i, none⟩ = _ := blk_cell BK134.out
      have hcz38_1 : w3.cell? ⟨gb134, 1, none⟩ = some (.int .i64 a0_1) := (blk_cell BK134.out 1).trans rfl
      have hcz38_2 : w3.cell? ⟨gb134, 2, none⟩ = some (.slice A0_2 l0_2.length c0_2) := (blk_cell BK134.out 2).trans rfl
      have hcz38_3 : w3.cell? ⟨gb134, 3, none⟩ = some (.slice A0_3 l0_3.length c0_3) := (blk_cell BK134.out 3).trans rfl
      have hcz38_4 : w3.cell? ⟨gb134, 4, none⟩ = some (.int .i64 a0_4) := (blk_cell BK134.out 4).trans rfl
      have hcz38_5 : w3.cell? ⟨gb134, 5, none⟩ = some (.bool a0_5) := (blk_cell BK134.out 5).trans rfl
      have hcz38_6 : w3.cell? ⟨gb134, 6, none⟩ = some (.bool a0_6) := (blk_cell BK134.out 6).trans rfl
      have hcz38_7 : w3.cell? ⟨gb134, 7, none⟩ = some (.bool a0_7) := (blk_cell BK134.out 7).trans rfl
      have hcz38_8 : w3.cell? ⟨gb134, 8, none⟩ = some (.int .i64 a0_8) := (blk_cell BK134.out 8).trans rfl
      have hcz38_9 : w3.cell? ⟨gb134, 9, none⟩ = some (.int .i64 a0_9) := (blk_cell BK134.out 9).trans rfl
      have hcz38_10 : w3.cell? ⟨gb134, 10, none⟩ = some (.int .i64 a0_10) := (blk_cell BK134.out 10).trans rfl
      have hcz38_11 : w3.cell? ⟨gb134, 11, none⟩ = some (.int .i64 a0_11) := (blk_cell BK134.out 11).trans rfl
      have hcz38_12 : w3.cell? ⟨gb134, 12, none⟩ = some (.int .i64 a0_12) := (blk_cell BK134.out 12).trans rfl
      have hcz38_13 : w3.cell? ⟨gb134, 13, none⟩ = some (.int .i64 a0_13) := (blk_cell BK134.out 13).trans rfl
      have hcz38_14 : w3.cell? ⟨gb134, 14, none⟩ = some (.int .i64 a0_14) := (blk_cell BK134.out 14).trans rfl
      have hcz38_15 : w3.cell? ⟨gb134, 15, none⟩ = some (.bool a0_15) := (blk_cell BK134.out 15).trans rfl
      have hcz38_16 : w3.cell? ⟨gb134, 16, none⟩ = some (.int .i64 a0_16) := (blk_cell BK134.out 16).trans rfl
      have hcz38_17 : w3.cell? ⟨gb134, 17, none⟩ = some (.int .i64 a0_17) := (blk_cell BK134.out 17).trans rfl
      have hcz38_18 : w3.cell? ⟨gb134, 18, none⟩ = some (.string a0_18) := (blk_cell BK134.out 18).trans rfl
      have hfz38_0 := blk_frozen BK134.out
      have hfz38_1 := blk_frozen BK134.out 1
      have hfz38_2 := blk_frozen BK134.out 2
      have hfz38_3 := blk_frozen BK134.out 3
      have hfz38_4 := blk_frozen BK134.out 4
      have hfz38_5 := blk_frozen BK134.out 5
      have hfz38_6 := blk_frozen BK134.out 6
      have hfz38_7 := blk_frozen BK134.out 7
      have hfz38_8 := blk_frozen BK134.out 8
      have hfz38_9 := blk_frozen BK134.out 9
      have hfz38_10 := blk_frozen BK134.out 10
      have hfz38_11 := blk_frozen BK134.out 11
      have hfz38_12 := blk_frozen BK134.out 12
      have hfz38_13 := blk_frozen BK134.out 13
      have hfz38_14 := blk_frozen BK134.out 14
      have hfz38_15 := blk_frozen BK134.out 15
      have hfz38_16 := blk_frozen BK134.out 16
      have hfz38_17 := blk_frozen BK134.out 17
      have hfz38_18 := blk_frozen BK134.out 18
      go_wp2_with (first | ((with_reducible refine gate_load (t := 85) rfl ?_); refine load_all (g := gb134) (ty := 85) rfl rfl rfl (bx BK134.out) (by kernel_rfl) (by kernel_rfl) ?_; simp only [Act.put, List.setIfInBounds_toArray, List.set_cons_zero, List.set_cons_succ]) | ((with_reducible refine gate_callee (f := 114) rfl ?_); refine goesL_ (some 7) rfl rfl Try.func114 (by kernel_rfl) rfl #[.agg #[.int .i64 a0_0, .int .i64 a0_1, .slice A0_2 l0_2.length c0_2, .slice A0_3 l0_3.length c0_3]] rfl (by (try simp only [List.map_toArray, List.map_cons, List.map_nil]); first | done | rfl | (simp only [List.length_drop, List.length_take]; rfl)) ?_; (with_reducible refine (spec_TilesOf.calls k a0_0 a0_1 _ _ l0_2 _ _ l0_3 t135 _ ?side1 ?side2 ?side3 ?side4 A4.out).mono ?_); (case side1 => repeat (first | exact (Kd.C_below HR0_2.out HB.out) | (with_reducible refine Kd.C_alloc ?_ _) | (with_reducible refine Kd.C_drewN ?_ _) | (with_reducible refine Kd.C_drew ?_))); (case side2 => exact HC0_2.out); (case side3 => repeat (first | exact (Kd.C_below HR0_3.out HB.out) | (with_reducible refine Kd.C_alloc ?_ _) | (with_reducible refine Kd.C_drewN ?_ _) | (with_reducible refine Kd.C_drew ?_))); (case side4 => exact HC0_3.out); rintro e w39 ⟨rfl, hb⟩; refine ⟨_, rfl, ?_⟩; have n0_ := Aside0.mk (blk_below (bx BK134.out) hb); have n1_ := bs HB hb; clear BK134; clear HB; have BK134 := n0_; have HB := n1_; clear n0_ n1_; (try clear hb); (try clear hb2); (try clear hk); (try clear hi)))
      go_meet
      case rel => exact ⟨_, (true), (by first | rfl | (simp; done) | (simp [*]; done)), H', ⟨by first | omega | exact Nat.le_refl _⟩, ⟨by (with_reducible repeat (first | refine blk_drewN ?_ _ | refine blk_drew ?_ | refine blk_alloc ?_ _)); exact BK134.out⟩, ⟨bl⟩⟩
  case rest =>
    clear HC2
    (try clear c1); (try clear p2); (try clear c5); (try clear c5b0); (try clear c5b1); (try clear p6); (try clear c7); (try clear c9); (try clear c10); (try clear c10b0); (try clear c11); (try clear c19); (try clear c19b0); (try clear c19b1); (try clear hcz11_0); (try clear hcz11_1); (try clear hcz11_10); (try clear hcz11_11); (try clear hcz11_12); (try clear hcz11_13); (try clear hcz11_14); (try clear hcz11_15); (try clear hcz11_16); (try clear hcz11_17); (try clear hcz11_18); (try clear hcz11_2); (try clear hcz11_3); (try clear hcz11_4); (try clear hcz11_5); (try clear hcz11_6); (try clear hcz11_7); (try clear hcz11_8); (try clear hcz11_9); (try clear hcz13_0); (try clear hcz13_1); (try clear hcz13_10); (try clear hcz13_11); (try clear hcz13_12); (try clear hcz13_13); (try clear hcz13_14); (try clear hcz13_15); (try clear hcz13_16); (try clear hcz13_17); (try clear hcz13_18); (try clear hcz13_2); (try clear hcz13_3); (try clear hcz13_4); (try clear hcz13_5); (try clear hcz13_6); (try clear hcz13_7); (try clear hcz13_8); (try clear hcz13_9); (try clear hcz15_0); (try clear hcz15_1); (try clear hcz15_10); (try clear hcz15_11); (try clear hcz15_12); (try clear hcz15_13); (try clear hcz15_14); (try clear hcz15_15); (try clear hcz15_16); (try clear hcz15_17); (try clear hcz15_18); (try clear hcz15_2); (try clear hcz15_3); (try clear hcz15_4); (try clear hcz15_5); (try clear hcz15_6); (try clear hcz15_7); (try clear hcz15_8); (try clear hcz15_9); (try clear hcz17_0); (try clear hcz17_1); (try clear hcz17_10); (try clear hcz17_11); (try clear hcz17_12); (try clear hcz17_13); (try clear hcz17_14); (try clear hcz17_15); (try clear hcz17_16); (try clear hcz17_17); (try clear hcz17_18); (try clear hcz17_2); (try clear hcz17_3); (try clear hcz17_4); (try clear hcz17_5); (try clear hcz17_6); (try clear hcz17_7); (try clear hcz17_8); (try clear hcz17_9); (try clear hcz21_0); (try clear hcz21_1); (try clear hcz21_10); (try clear hcz21_11); (try clear hcz21_12); (try clear hcz21_13); (try clear hcz21_14); (try clear hcz21_15); (try clear hcz21_16); (try clear hcz21_17); (try clear hcz21_18); (try clear hcz21_2); (try clear hcz21_3); (try clear hcz21_4); (try clear hcz21_5); (try clear hcz21_6); (try clear hcz21_7); (try clear hcz21_8); (try clear hcz21_9); (try clear hcz23_0); (try clear hcz23_1); (try clear hcz23_10); (try clear hcz23_11); (try clear hcz23_12); (try clear hcz23_13); (try clear hcz23_14); (try clear hcz23_15); (try clear hcz23_16); (try clear hcz23_17); (try clear hcz23_18); (try clear hcz23_2); (try clear hcz23_3); (try clear hcz23_4); (try clear hcz23_5); (try clear hcz23_6); (try clear hcz23_7); (try clear hcz23_8); (try clear hcz23_9); (try clear hcz25_0); (try clear hcz25_1); (try clear hcz25_10); (try clear hcz25_11); (try clear hcz25_12); (try clear hcz25_13); (try clear hcz25_14); (try clear hcz25_15); (try clear hcz25_16); (try clear hcz25_17); (try clear hcz25_18); (try clear hcz25_2); (try clear hcz25_3); (try clear hcz25_4); (try clear hcz25_5); (try clear hcz25_6); (try clear hcz25_7); (try clear hcz25_8); (try clear hcz25_9); (try clear hcz27_0); (try clear hcz27_1); (try clear hcz27_10); (try clear hcz27_11); (try clear hcz27_12); (try clear hcz27_13); (try clear hcz27_14); (try clear hcz27_15); (try clear hcz27_16); (try clear hcz27_17); (try clear hcz27_18); (try clear hcz27_2); (try clear hcz27_3); (try clear hcz27_4); (try clear hcz27_5); (try clear hcz27_6); (try clear hcz27_7); (try clear hcz27_8); (try clear hcz27_9); (try clear hcz28_0); (try clear hcz28_1); (try clear hcz28_10); (try clear hcz28_11); (try clear hcz28_12); (try clear hcz28_13); (try clear hcz28_14); (try clear hcz28_15); (try clear hcz28_16); (try clear hcz28_17); (try clear hcz28_18); (try clear hcz28_2); (try clear hcz28_3); (try clear hcz28_4); (try clear hcz28_5); (try clear hcz28_6); (try clear hcz28_7); (try clear hcz28_8); (try clear hcz28_9); (try clear hcz30_0); (try clear hcz30_1); (try clear hcz30_10); (try clear hcz30_11); (try clear hcz30_12); (try clear hcz30_13); (try clear hcz30_14); (try clear hcz30_15); (try clear hcz30_16); (try clear hcz30_17); (try clear hcz30_18); (try clear hcz30_2); (try clear hcz30_3); (try clear hcz30_4); (try clear hcz30_5); (try clear hcz30_6); (try clear hcz30_7); (try clear hcz30_8); (try clear hcz30_9); (try clear hcz32_0); (try clear hcz32_1); (try clear hcz32_10); (try clear hcz32_11); (try clear hcz32_12); (try clear hcz32_13); (try clear hcz32_14); (try clear hcz32_15); (try clear hcz32_16); (try clear hcz32_17); (try clear hcz32_18); (try clear hcz32_2); (try clear hcz32_3); (try clear hcz32_4); (try clear hcz32_5); (try clear hcz32_6); (try clear hcz32_7); (try clear hcz32_8); (try clear hcz32_9); (try clear hcz34_0); (try clear hcz34_1); (try clear hcz34_10); (try clear hcz34_11); (try clear hcz34_12); (try clear hcz34_13); (try clear hcz34_14); (try clear hcz34_15); (try clear hcz34_16); (try clear hcz34_17); (try clear hcz34_18); (try clear hcz34_2); (try clear hcz34_3); (try clear hcz34_4); (try clear hcz34_5); (try clear hcz34_6); (try clear hcz34_7); (try clear hcz34_8); (try clear hcz34_9); (try clear hcz36_0); (try clear hcz36_1); (try clear hcz36_10); (try clear hcz36_11); (try clear hcz36_12); (try clear hcz36_13); (try clear hcz36_14); (try clear hcz36_15); (try clear hcz36_16); (try clear hcz36_17); (try clear hcz36_18); (try clear hcz36_2); (try clear hcz36_3); (try clear hcz36_4); (try clear hcz36_5); (try clear hcz36_6); (try clear hcz36_7); (try clear hcz36_8); (try clear hcz36_9); (try clear hcz38_0); (try clear hcz38_1); (try clear hcz38_10); (try clear hcz38_11); (try clear hcz38_12); (try clear hcz38_13); (try clear hcz38_14); (try clear hcz38_15); (try clear hcz38_16); (try clear hcz38_17); (try clear hcz38_18); (try clear hcz38_2); (try clear hcz38_3); (try clear hcz38_4); (try clear hcz38_5); (try clear hcz38_6); (try clear hcz38_7); (try clear hcz38_8); (try clear hcz38_9); (try clear hfz11_0); (try clear hfz11_1); (try clear hfz11_10); (try clear hfz11_11); (try clear hfz11_12); (try clear hfz11_13); (try clear hfz11_14); (try clear hfz11_15); (try clear hfz11_16); (try clear hfz11_17); (try clear hfz11_18); (try clear hfz11_2); (try clear hfz11_3); (try clear hfz11_4); (try clear hfz11_5); (try clear hfz11_6); (try clear hfz11_7); (try clear hfz11_8); (try clear hfz11_9); (try clear hfz13_0); (try clear hfz13_1); (try clear hfz13_10); (try clear hfz13_11); (try clear hfz13_12); (try clear hfz13_13); (try clear hfz13_14); (try clear hfz13_15); (try clear hfz13_16); (try clear hfz13_17); (try clear hfz13_18); (try clear hfz13_2); (try clear hfz13_3); (try clear hfz13_4); (try clear hfz13_5); (try clear hfz13_6); (try clear hfz13_7); (try clear hfz13_8); (try clear hfz13_9); (try clear hfz15_0); (try clear hfz15_1); (try clear hfz15_10); (try clear hfz15_11); (try clear hfz15_12); (try clear hfz15_13); (try clear hfz15_14); (try clear hfz15_15); (try clear hfz15_16); (try clear hfz15_17); (try clear hfz15_18); (try clear hfz15_2); (try clear hfz15_3); (try clear hfz15_4); (try clear hfz15_5); (try clear hfz15_6); (try clear hfz15_7); (try clear hfz15_8); (try clear hfz15_9); (try clear hfz17_0); (try clear hfz17_1); (try clear hfz17_10); (try clear hfz17_11); (try clear hfz17_12); (try clear hfz17_13); (try clear hfz17_14); (try clear hfz17_15); (try clear hfz17_16); (try clear hfz17_17); (try clear hfz17_18); (try clear hfz17_2); (try clear hfz17_3); (try clear hfz17_4); (try clear hfz17_5); (try clear hfz17_6); (try clear hfz17_7); (try clear hfz17_8); (try clear hfz17_9); (try clear hfz21_0); (try clear hfz21_1); (try clear hfz21_10); (try clear hfz21_11); (try clear hfz21_12); (try clear hfz21_13); (try clear hfz21_14); (try clear hfz21_15); (try clear hfz21_16); (try clear hfz21_17); (try clear hfz21_18); (try clear hfz21_2); (try clear hfz21_3); (try clear hfz21_4); (try clear hfz21_5); (try clear hfz21_6); (try clear hfz21_7); (try clear hfz21_8); (try clear hfz21_9); (try clear hfz23_0); (try clear hfz23_1); (try clear hfz23_10); (try clear hfz23_11); (try clear hfz23_12); (try clear hfz23_13); (try clear hfz23_14); (try clear hfz23_15); (try clear hfz23_16); (try clear hfz23_17); (try clear hfz23_18); (try clear hfz23_2); (try clear hfz23_3); (try clear hfz23_4); (try clear hfz23_5); (try clear hfz23_6); (try clear hfz23_7); (try clear hfz23_8); (try clear hfz23_9); (try clear hfz25_0); (try clear hfz25_1); (try clear hfz25_10); (try clear hfz25_11); (try clear hfz25_12); (try clear hfz25_13); (try clear hfz25_14); (try clear hfz25_15); (try clear hfz25_16); (try clear hfz25_17); (try clear hfz25_18); (try clear hfz25_2); (try clear hfz25_3); (try clear hfz25_4); (try clear hfz25_5); (try clear hfz25_6); (try clear hfz25_7); (try clear hfz25_8); (try clear hfz25_9); (try clear hfz27_0); (try clear hfz27_1); (try clear hfz27_10); (try clear hfz27_11); (try clear hfz27_12); (try clear hfz27_13); (try clear hfz27_14); (try clear hfz27_15); (try clear hfz27_16); (try clear hfz27_17); (try clear hfz27_18); (try clear hfz27_2); (try clear hfz27_3); (try clear hfz27_4); (try clear hfz27_5); (try clear hfz27_6); (try clear hfz27_7); (try clear hfz27_8); (try clear hfz27_9); (try clear hfz28_0); (try clear hfz28_1); (try clear hfz28_10); (try clear hfz28_11); (try clear hfz28_12); (try clear hfz28_13); (try clear hfz28_14); (try clear hfz28_15); (try clear hfz28_16); (try clear hfz28_17); (try clear hfz28_18); (try clear hfz28_2); (try clear hfz28_3); (try clear hfz28_4); (try clear hfz28_5); (try clear hfz28_6); (try clear hfz28_7); (try clear hfz28_8); (try clear hfz28_9); (try clear hfz30_0); (try clear hfz30_1); (try clear hfz30_10); (try clear hfz30_11); (try clear hfz30_12); (try clear hfz30_13); (try clear hfz30_14); (try clear hfz30_15); (try clear hfz30_16); (try clear hfz30_17); (try clear hfz30_18); (try clear hfz30_2); (try clear hfz30_3); (try clear hfz30_4); (try clear hfz30_5); (try clear hfz30_6); (try clear hfz30_7); (try clear hfz30_8); (try clear hfz30_9); (try clear hfz32_0); (try clear hfz32_1); (try clear hfz32_10); (try clear hfz32_11); (try clear hfz32_12); (try clear hfz32_13); (try clear hfz32_14); (try clear hfz32_15); (try clear hfz32_16); (try clear hfz32_17); (try clear hfz32_18); (try clear hfz32_2); (try clear hfz32_3); (try clear hfz32_4); (try clear hfz32_5); (try clear hfz32_6); (try clear hfz32_7); (try clear hfz32_8); (try clear hfz32_9); (try clear hfz34_0); (try clear hfz34_1); (try clear hfz34_10); (try clear hfz34_11); (try clear hfz34_12); (try clear hfz34_13); (try clear hfz34_14); (try clear hfz34_15); (try clear hfz34_16); (try clear hfz34_17); (try clear hfz34_18); (try clear hfz34_2); (try clear hfz34_3); (try clear hfz34_4); (try clear hfz34_5); (try clear hfz34_6); (try clear hfz34_7); (try clear hfz34_8); (try clear hfz34_9); (try clear hfz36_0); (try clear hfz36_1); (try clear hfz36_10); (try clear hfz36_11); (try clear hfz36_12); (try clear hfz36_13); (try clear hfz36_14); (try clear hfz36_15); (try clear hfz36_16); (try clear hfz36_17); (try clear hfz36_18); (try clear hfz36_2); (try clear hfz36_3); (try clear hfz36_4); (try clear hfz36_5); (try clear hfz36_6); (try clear hfz36_7); (try clear hfz36_8); (try clear hfz36_9); (try clear hfz38_0); (try clear hfz38_1); (try clear hfz38_10); (try clear hfz38_11); (try clear hfz38_12); (try clear hfz38_13); (try clear hfz38_14); (try clear hfz38_15); (try clear hfz38_16); (try clear hfz38_17); (try clear hfz38_18); (try clear hfz38_2); (try clear hfz38_3); (try clear hfz38_4); (try clear hfz38_5); (try clear hfz38_6); (try clear hfz38_7); (try clear hfz38_8); (try clear hfz38_9)
    obtain ⟨kq, x35_1, rfl, HA, HJ1, BK134, HB⟩ := hcut
    cases kq with
    | zero => exact absurd HA.out (by simp [spec_SourceOk.j0])
    | succ kj1 =>
      have H := HA.out
      clear HA
      simp only [spec_SourceOk.j0] at H
      by_cases c40 : x35_1 = true
      · subst c40
        rw [if_pos rfl] at H
        obtain rfl := Option.some.inj H
        go_wp2
        go_ret
        exact ⟨rr, bl⟩
      · replace c40 := Bool.eq_false_iff.mpr c40
        subst c40
        have H1 : ((spec_l01In.f a0_13 1 1000).bind fun t138 => (if t138 = true then ((spec_l01In.f a0_12 0 1000).bind fun t139 => (if t139 = true then ((spec_l01In.f a0_14 0 4).bind fun t140 => (spec_SourceOk.j1 kj1 (!t140) a0_0 a0_1 l0_2 l0_3 a0_4 a0_5 a0_6 a0_7 a0_8 a0_9 a0_10 a0_11 a0_12 a0_13 a0_14 a0_15 a0_16 a0_17 a0_18)) else (spec_SourceOk.j1 kj1 true a0_0 a0_1 l0_2 l0_3 a0_4 a0_5 a0_6 a0_7 a0_8 a0_9 a0_10 a0_11 a0_12 a0_13 a0_14 a0_15 a0_16 a0_17 a0_18))) else (spec_SourceOk.j1 kj1 true a0_0 a0_1 l0_2 l0_3 a0_4 a0_5 a0_6 a0_7 a0_8 a0_9 a0_10 a0_11 a0_12 a0_13 a0_14 a0_15 a0_16 a0_17 a0_18))) = some r := by rw [if_neg (show ¬ (false = true) by decide)] at H; exact H
        clear H
        have H := H1
        clear H1
        have HC41 := Aside0.mk H
        clear H
        go_upto_region 3 with (fail)
        go_cut [51] (fun v51 wc => ∃ (kq : Nat) (x51_40 : Bool), v51 = .bool x51_40 ∧ Aside0 (spec_SourceOk.j1 kq x51_40 a0_0 a0_1 l0_2 l0_3 a0_4 a0_5 a0_6 a0_7 a0_8 a0_9 a0_10 a0_11 a0_12 a0_13 a0_14 a0_15 a0_16 a0_17 a0_18 = some r) ∧ Aside0 (kq ≤ kj1) ∧ Aside0 (wc.heap[gb134]? = some (.cells #[.int .i64 a0_0, .int .i64 a0_1, (.slice A0_2 l0_2.length c0_2), (.slice A0_3 l0_3.length c0_3), .int .i64 a0_4, .bool a0_5, .bool a0_6, .bool a0_7, .int .i64 a0_8, .int .i64 a0_9, .int .i64 a0_10, .int .i64 a0_11, .int .i64 a0_12, .int .i64 a0_13, .int .i64 a0_14, .bool a0_15, .int .i64 a0_16, .int .i64 a0_17, .string a0_18] 85 (0, 0))) ∧ Aside0 (Below w.heap.size w wc))
        case first =>
          have H := HC41.out
          clear HC41
          replace H := Option.bind_eq_some_iff.mp H
          obtain ⟨t138, A420, H⟩ := H
          (try dsimp only at H)
          have A42 := Aside0.mk A420
          clear A420
          by_cases c43 : t138 = true
          · subst c43
            rw [if_pos rfl] at H
            replace H := Option.bind_eq_some_iff.mp H
            obtain ⟨t139, A440, H⟩ := H
            (try dsimp only at H)
            have A44 := Aside0.mk A440
            clear A440
            by_cases c45 : t139 = true
            · subst c45
              rw [if_pos rfl] at H
              replace H := Option.bind_eq_some_iff.mp H
              obtain ⟨t140, A460, H⟩ := H
              (try dsimp only at H)
              have A46 := Aside0.mk A460
              clear A460
              have H' := Aside0.mk H
              clear H
              have hcz47_0 : ∀ i, wc.cell? ⟨gb134, i, none⟩ = _ := blk_cell BK134.out
              have hcz47_1 : wc.cell? ⟨gb134, 1, none⟩ = some (.int .i64 a0_1) := (blk_cell BK134.out 1).trans rfl
              have hcz47_2 : wc.cell? ⟨gb134, 2, none⟩ = some (.slice A0_2 l0_2.length c0_2) := (blk_cell BK134.out 2).trans rfl
              have hcz47_3 : wc.cell? ⟨gb134, 3, none⟩ = some (.slice A0_3 l0_3.length c0_3) := (blk_cell BK134.out 3).trans rfl
              have hcz47_4 : wc.cell? ⟨gb134, 4, none⟩ = some (.int .i64 a0_4) := (blk_cell BK134.out 4).trans rfl
              have hcz47_5 : wc.cell? ⟨gb134, 5, none⟩ = some (.bool a0_5) := (blk_cell BK134.out 5).trans rfl
              have hcz47_6 : wc.cell? ⟨gb134, 6, none⟩ = some (.bool a0_6) := (blk_cell BK134.out 6).trans rfl
              have hcz47_7 : wc.cell? ⟨gb134, 7, none⟩ = some (.bool a0_7) := (blk_cell BK134.out 7).trans rfl
              have hcz47_8 : wc.cell? ⟨gb134, 8, none⟩ = some (.int .i64 a0_8) := (blk_cell BK134.out 8).trans rfl
              have hcz47_9 : wc.cell? ⟨gb134, 9, none⟩ = some (.int .i64 a0_9) := (blk_cell BK134.out 9).trans rfl
              have hcz47_10 : wc.cell? ⟨gb134, 10, none⟩ = some (.int .i64 a0_10) := (blk_cell BK134.out 10).trans rfl
              have hcz47_11 : wc.cell? ⟨gb134, 11, none⟩ = some (.int .i64 a0_11) := (blk_cell BK134.out 11).trans rfl
              have hcz47_12 : wc.cell? ⟨gb134, 12, none⟩ = some (.int .i64 a0_12) := (blk_cell BK134.out 12).trans rfl
              have hcz47_13 : wc.cell? ⟨gb134, 13, none⟩ = some (.int .i64 a0_13) := (blk_cell BK134.out 13).trans rfl
              have hcz47_14 : wc.cell? ⟨gb134, 14, none⟩ = some (.int .i64 a0_14) := (blk_cell BK134.out 14).trans rfl
              have hcz47_15 : wc.cell? ⟨gb134, 15, none⟩ = some (.bool a0_15) := (blk_cell BK134.out 15).trans rfl
              have hcz47_16 : wc.cell? ⟨gb134, 16, none⟩ = some (.int .i64 a0_16) := (blk_cell BK134.out 16).trans rfl
              have hcz47_17 : wc.cell? ⟨gb134, 17, none⟩ = some (.int .i64 a0_17) := (blk_cell BK134.out 17).trans rfl
              have hcz47_18 : wc.cell? ⟨gb134, 18, none⟩ = some (.string a0_18) := (blk_cell BK134.out 18).trans rfl
              have hfz47_0 := blk_frozen BK134.out
              have hfz47_1 := blk_frozen BK134.out 1
              have hfz47_2 := blk_frozen BK134.out 2
              have hfz47_3 := blk_frozen BK134.out 3
              have hfz47_4 := blk_frozen BK134.out 4
              have hfz47_5 := blk_frozen BK134.out 5
              have hfz47_6 := blk_frozen BK134.out 6
              have hfz47_7 := blk_frozen BK134.out 7
              have hfz47_8 := blk_frozen BK134.out 8
              have hfz47_9 := blk_frozen BK134.out 9
              have hfz47_10 := blk_frozen BK134.out 10
              have hfz47_11 := blk_frozen BK134.out 11
              have hfz47_12 := blk_frozen BK134.out 12
              have hfz47_13 := blk_frozen BK134.out 13
              have hfz47_14 := blk_frozen BK134.out 14
              have hfz47_15 := blk_frozen BK134.out 15
              have hfz47_16 := blk_frozen BK134.out 16
              have hfz47_17 := blk_frozen BK134.out 17
              have hfz47_18 := blk_frozen BK134.out 18
              go_wp2_with (first | ((with_reducible refine gate_load (t := 85) rfl ?_); refine load_all (g := gb134) (ty := 85) rfl rfl rfl (bx BK134.out) (by kernel_rfl) (by kernel_rfl) ?_; simp only [Act.put, List.setIfInBounds_toArray, List.set_cons_zero, List.set_cons_succ]) | ((with_reducible refine gate_callee (f := 85) rfl ?_); refine goesL_ (some 38) rfl rfl Try.func85 (by kernel_rfl) rfl #[.int .i64 a0_13, .int .i64 1, .int .i64 1000] rfl (by (try simp only [List.map_toArray, List.map_cons, List.map_nil]); first | done | rfl | (simp only [List.length_drop, List.length_take]; rfl)) ?_; (with_reducible refine (spec_l01In.calls a0_13 1 1000 true _ A42.out).mono ?_); rintro e w' ⟨rfl, ⟨nd, rfl⟩⟩; refine ⟨_, rfl, ?_⟩) | (go_at_call 85; (with_reducible refine (spec_l01In.calls a0_12 0 1000 true _ A44.out).mono ?_); rintro e w' ⟨rfl, ⟨nd, rfl⟩⟩) | (go_at_call 85; (with_reducible refine (spec_l01In.calls a0_14 0 4 t140 _ A46.out).mono ?_); rintro e w' ⟨rfl, ⟨nd, rfl⟩⟩))
              go_meet
              case rel => exact ⟨_, (!t140), (by first | rfl | (simp; done) | (simp [*]; done)), H', ⟨by have := HJ1.out; first | omega | exact Nat.le_refl _⟩, ⟨by (with_reducible repeat (first | refine blk_drewN ?_ _ | refine blk_drew ?_ | refine blk_alloc ?_ _)); exact BK134.out⟩, ⟨bl⟩⟩
            · replace c45 := Bool.eq_false_iff.mpr c45
              subst c45
              have H1 : (spec_SourceOk.j1 kj1 true a0_0 a0_1 l0_2 l0_3 a0_4 a0_5 a0_6 a0_7 a0_8 a0_9 a0_10 a0_11 a0_12 a0_13 a0_14 a0_15 a0_16 a0_17 a0_18) = some r := by rw [if_neg (show ¬ (false = true) by decide)] at H; exact H
              clear H
              have H := H1
              clear H1
              have H' := Aside0.mk H
              clear H
              have hcz48_0 : ∀ i, wc.cell? ⟨gb134, i, none⟩ = _ := blk_cell BK134.out
              have hcz48_1 : wc.cell? ⟨gb134, 1, none⟩ = some (.int .i64 a0_1) := (blk_cell BK134.out 1).trans rfl
              have hcz48_2 : wc.cell? ⟨gb134, 2, none⟩ = some (.slice A0_2 l0_2.length c0_2) := (blk_cell BK134.out 2).trans rfl
              have hcz48_3 : wc.cell? ⟨gb134, 3, none⟩ = some (.slice A0_3 l0_3.length c0_3) := (blk_cell BK134.out 3).trans rfl
              have hcz48_4 : wc.cell? ⟨gb134, 4, none⟩ = some (.int .i64 a0_4) := (blk_cell BK134.out 4).trans rfl
              have hcz48_5 : wc.cell? ⟨gb134, 5, none⟩ = some (.bool a0_5) := (blk_cell BK134.out 5).trans rfl
              have hcz48_6 : wc.cell? ⟨gb134, 6, none⟩ = some (.bool a0_6) := (blk_cell BK134.out 6).trans rfl
              have hcz48_7 : wc.cell? ⟨gb134, 7, none⟩ = some (.bool a0_7) := (blk_cell BK134.out 7).trans rfl
              have hcz48_8 : wc.cell? ⟨gb134, 8, none⟩ = some (.int .i64 a0_8) := (blk_cell BK134.out 8).trans rfl
              have hcz48_9 : wc.cell? ⟨gb134, 9, none⟩ = some (.int .i64 a0_9) := (blk_cell BK134.out 9).trans rfl
              have hcz48_10 : wc.cell? ⟨gb134, 10, none⟩ = some (.int .i64 a0_10) := (blk_cell BK134.out 10).trans rfl
              have hcz48_11 : wc.cell? ⟨gb134, 11, none⟩ = some (.int .i64 a0_11) := (blk_cell BK134.out 11).trans rfl
              have hcz48_12 : wc.cell? ⟨gb134, 12, none⟩ = some (.int .i64 a0_12) := (blk_cell BK134.out 12).trans rfl
              have hcz48_13 : wc.cell? ⟨gb134, 13, none⟩ = some (.int .i64 a0_13) := (blk_cell BK134.out 13).trans rfl
              have hcz48_14 : wc.cell? ⟨gb134, 14, none⟩ = some (.int .i64 a0_14) := (blk_cell BK134.out 14).trans rfl
              have hcz48_15 : wc.cell? ⟨gb134, 15, none⟩ = some (.bool a0_15) := (blk_cell BK134.out 15).trans rfl
              have hcz48_16 : wc.cell? ⟨gb134, 16, none⟩ = some (.int .i64 a0_16) := (blk_cell BK134.out 16).trans rfl
              have hcz48_17 : wc.cell? ⟨gb134, 17, none⟩ = some (.int .i64 a0_17) := (blk_cell BK134.out 17).trans rfl
              have hcz48_18 : wc.cell? ⟨gb134, 18, none⟩ = some (.string a0_18) := (blk_cell BK134.out 18).trans rfl
              have hfz48_0 := blk_frozen BK134.out
              have hfz48_1 := blk_frozen BK134.out 1
              have hfz48_2 := blk_frozen BK134.out 2
              have hfz48_3 := blk_frozen BK134.out 3
              have hfz48_4 := blk_frozen BK134.out 4
              have hfz48_5 := blk_frozen BK134.out 5
              have hfz48_6 := blk_frozen BK134.out 6
              have hfz48_7 := blk_frozen BK134.out 7
              have hfz48_8 := blk_frozen BK134.out 8
              have hfz48_9 := blk_frozen BK134.out 9
              have hfz48_10 := blk_frozen BK134.out 10
              have hfz48_11 := blk_frozen BK134.out 11
              have hfz48_12 := blk_frozen BK134.out 12
              have hfz48_13 := blk_frozen BK134.out 13
              have hfz48_14 := blk_frozen BK134.out 14
              have hfz48_15 := blk_frozen BK134.out 15
              have hfz48_16 := blk_frozen BK134.out 16
              have hfz48_17 := blk_frozen BK134.out 17
              have hfz48_18 := blk_frozen BK134.out 18
              go_wp2_with (first | ((with_reducible refine gate_load (t := 85) rfl ?_); refine load_all (g := gb134) (ty := 85) rfl rfl rfl (bx BK134.out) (by kernel_rfl) (by kernel_rfl) ?_; simp only [Act.put, List.setIfInBounds_toArray, List.set_cons_zero, List.set_cons_succ]) | ((with_reducible refine gate_callee (f := 85) rfl ?_); refine goesL_ (some 38) rfl rfl Try.func85 (by kernel_rfl) rfl #[.int .i64 a0_13, .int .i64 1, .int .i64 1000] rfl (by (try simp only [List.map_toArray, List.map_cons, List.map_nil]); first | done | rfl | (simp only [List.length_drop, List.length_take]; rfl)) ?_; (with_reducible refine (spec_l01In.calls a0_13 1 1000 true _ A42.out).mono ?_); rintro e w' ⟨rfl, ⟨nd, rfl⟩⟩; refine ⟨_, rfl, ?_⟩) | (go_at_call 85; (with_reducible refine (spec_l01In.calls a0_12 0 1000 false _ A44.out).mono ?_); rintro e w' ⟨rfl, ⟨nd, rfl⟩⟩))
              go_meet
              case rel => exact ⟨_, (true), (by first | rfl | (simp; done) | (simp [*]; done)), H', ⟨by have := HJ1.out; first | omega | exact Nat.le_refl _⟩, ⟨by (with_reducible repeat (first | refine blk_drewN ?_ _ | refine blk_drew ?_ | refine blk_alloc ?_ _)); exact BK134.out⟩, ⟨bl⟩⟩
          · replace c43 := Bool.eq_false_iff.mpr c43
            subst c43
            have H1 : (spec_SourceOk.j1 kj1 true a0_0 a0_1 l0_2 l0_3 a0_4 a0_5 a0_6 a0_7 a0_8 a0_9 a0_10 a0_11 a0_12 a0_13 a0_14 a0_15 a0_16 a0_17 a0_18) = some r := by rw [if_neg (show ¬ (false = true) by decide)] at H; exact H
            clear H
            have H := H1
            clear H1
            have H' := Aside0.mk H
            clear H
            have hcz49_0 : ∀ i, wc.cell? ⟨gb134, i, none⟩ = _ := blk_cell BK134.out
            have hcz49_1 : wc.cell? ⟨gb134, 1, none⟩ = some (.int .i64 a0_1) := (blk_cell BK134.out 1).trans rfl
            have hcz49_2 : wc.cell? ⟨gb134, 2, none⟩ = some (.slice A0_2 l0_2.length c0_2) := (blk_cell BK134.out 2).trans rfl
            have hcz49_3 : wc.cell? ⟨gb134, 3, none⟩ = some (.slice A0_3 l0_3.length c0_3) := (blk_cell BK134.out 3).trans rfl
            have hcz49_4 : wc.cell? ⟨gb134, 4, none⟩ = some (.int .i64 a0_4) := (blk_cell BK134.out 4).trans rfl
            have hcz49_5 : wc.cell? ⟨gb134, 5, none⟩ = some (.bool a0_5) := (blk_cell BK134.out 5).trans rfl
            have hcz49_6 : wc.cell? ⟨gb134, 6, none⟩ = some (.bool a0_6) := (blk_cell BK134.out 6).trans rfl
            have hcz49_7 : wc.cell? ⟨gb134, 7, none⟩ = some (.bool a0_7) := (blk_cell BK134.out 7).trans rfl
            have hcz49_8 : wc.cell? ⟨gb134, 8, none⟩ = some (.int .i64 a0_8) := (blk_cell BK134.out 8).trans rfl
            have hcz49_9 : wc.cell? ⟨gb134, 9, none⟩ = some (.int .i64 a0_9) := (blk_cell BK134.out 9).trans rfl
            have hcz49_10 : wc.cell? ⟨gb134, 10, none⟩ = some (.int .i64 a0_10) := (blk_cell BK134.out 10).trans rfl
            have hcz49_11 : wc.cell? ⟨gb134, 11, none⟩ = some (.int .i64 a0_11) := (blk_cell BK134.out 11).trans rfl
            have hcz49_12 : wc.cell? ⟨gb134, 12, none⟩ = some (.int .i64 a0_12) := (blk_cell BK134.out 12).trans rfl
            have hcz49_13 : wc.cell? ⟨gb134, 13, none⟩ = some (.int .i64 a0_13) := (blk_cell BK134.out 13).trans rfl
            have hcz49_14 : wc.cell? ⟨gb134, 14, none⟩ = some (.int .i64 a0_14) := (blk_cell BK134.out 14).trans rfl
            have hcz49_15 : wc.cell? ⟨gb134, 15, none⟩ = some (.bool a0_15) := (blk_cell BK134.out 15).trans rfl
            have hcz49_16 : wc.cell? ⟨gb134, 16, none⟩ = some (.int .i64 a0_16) := (blk_cell BK134.out 16).trans rfl
            have hcz49_17 : wc.cell? ⟨gb134, 17, none⟩ = some (.int .i64 a0_17) := (blk_cell BK134.out 17).trans rfl
            have hcz49_18 : wc.cell? ⟨gb134, 18, none⟩ = some (.string a0_18) := (blk_cell BK134.out 18).trans rfl
            have hfz49_0 := blk_frozen BK134.out
            have hfz49_1 := blk_frozen BK134.out 1
            have hfz49_2 := blk_frozen BK134.out 2
            have hfz49_3 := blk_frozen BK134.out 3
            have hfz49_4 := blk_frozen BK134.out 4
            have hfz49_5 := blk_frozen BK134.out 5
            have hfz49_6 := blk_frozen BK134.out 6
            have hfz49_7 := blk_frozen BK134.out 7
            have hfz49_8 := blk_frozen BK134.out 8
            have hfz49_9 := blk_frozen BK134.out 9
            have hfz49_10 := blk_frozen BK134.out 10
            have hfz49_11 := blk_frozen BK134.out 11
            have hfz49_12 := blk_frozen BK134.out 12
            have hfz49_13 := blk_frozen BK134.out 13
            have hfz49_14 := blk_frozen BK134.out 14
            have hfz49_15 := blk_frozen BK134.out 15
            have hfz49_16 := blk_frozen BK134.out 16
            have hfz49_17 := blk_frozen BK134.out 17
            have hfz49_18 := blk_frozen BK134.out 18
            go_wp2_with (first | ((with_reducible refine gate_load (t := 85) rfl ?_); refine load_all (g := gb134) (ty := 85) rfl rfl rfl (bx BK134.out) (by kernel_rfl) (by kernel_rfl) ?_; simp only [Act.put, List.setIfInBounds_toArray, List.set_cons_zero, List.set_cons_succ]) | ((with_reducible refine gate_callee (f := 85) rfl ?_); refine goesL_ (some 38) rfl rfl Try.func85 (by kernel_rfl) rfl #[.int .i64 a0_13, .int .i64 1, .int .i64 1000] rfl (by (try simp only [List.map_toArray, List.map_cons, List.map_nil]); first | done | rfl | (simp only [List.length_drop, List.length_take]; rfl)) ?_; (with_reducible refine (spec_l01In.calls a0_13 1 1000 false _ A42.out).mono ?_); rintro e w' ⟨rfl, ⟨nd, rfl⟩⟩; refine ⟨_, rfl, ?_⟩))
            go_meet
            case rel => exact ⟨_, (true), (by first | rfl | (simp; done) | (simp [*]; done)), H', ⟨by have := HJ1.out; first | omega | exact Nat.le_refl _⟩, ⟨by (with_reducible repeat (first | refine blk_drewN ?_ _ | refine blk_drew ?_ | refine blk_alloc ?_ _)); exact BK134.out⟩, ⟨bl⟩⟩
        case rest =>
          clear HC41
          (try clear p2); (try clear c4); (try clear c8); (try clear c40); (try clear c43); (try clear c45); (try clear hcz25_9); (try clear hcz27_0); (try clear hcz27_1); (try clear hcz27_10); (try clear hcz27_11); (try clear hcz27_12); (try clear hcz27_13); (try clear hcz27_14); (try clear hcz27_15); (try clear hcz27_16); (try clear hcz27_17); (try clear hcz27_18); (try clear hcz27_2); (try clear hcz27_3); (try clear hcz27_4); (try clear hcz27_5); (try clear hcz27_6); (try clear hcz27_7); (try clear hcz27_8); (try clear hcz27_9); (try clear hcz28_0); (try clear hcz28_1); (try clear hcz28_10); (try clear hcz28_11); (try clear hcz28_12); (try clear hcz28_13); (try clear hcz28_14); (try clear hcz28_15); (try clear hcz28_16); (try clear hcz28_17); (try clear hcz28_18); (try clear hcz28_2); (try clear hcz28_3); (try clear hcz28_4); (try clear hcz28_5); (try clear hcz28_6); (try clear hcz28_7); (try clear hcz28_8); (try clear hcz28_9); (try clear hcz30_0); (try clear hcz30_1); (try clear hcz30_10); (try clear hcz30_11); (try clear hcz30_12); (try clear hcz30_13); (try clear hcz30_14); (try clear hcz30_15); (try clear hcz30_16); (try clear hcz30_17); (try clear hcz30_18); (try clear hcz30_2); (try clear hcz30_3); (try clear hcz30_4); (try clear hcz30_5); (try clear hcz30_6); (try clear hcz30_7); (try clear hcz30_8); (try clear hcz30_9); (try clear hcz32_0); (try clear hcz32_1); (try clear hcz32_10); (try clear hcz32_11); (try clear hcz32_12); (try clear hcz32_13); (try clear hcz32_14); (try clear hcz32_15); (try clear hcz32_16); (try clear hcz32_17); (try clear hcz32_18); (try clear hcz32_2); (try clear hcz32_3); (try clear hcz32_4); (try clear hcz32_5); (try clear hcz32_6); (try clear hcz32_7); (try clear hcz32_8); (try clear hcz32_9); (try clear hcz34_0); (try clear hcz34_1); (try clear hcz34_10); (try clear hcz34_11); (try clear hcz34_12); (try clear hcz34_13); (try clear hcz34_14); (try clear hcz34_15); (try clear hcz34_16); (try clear hcz34_17); (try clear hcz34_18); (try clear hcz34_2); (try clear hcz34_3); (try clear hcz34_4); (try clear hcz34_5); (try clear hcz34_6); (try clear hcz34_7); (try clear hcz34_8); (try clear hcz34_9); (try clear hcz36_0); (try clear hcz36_1); (try clear hcz36_10); (try clear hcz36_11); (try clear hcz36_12); (try clear hcz36_13); (try clear hcz36_14); (try clear hcz36_15); (try clear hcz36_16); (try clear hcz36_17); (try clear hcz36_18); (try clear hcz36_2); (try clear hcz36_3); (try clear hcz36_4); (try clear hcz36_5); (try clear hcz36_6); (try clear hcz36_7); (try clear hcz36_8); (try clear hcz36_9); (try clear hcz38_0); (try clear hcz38_1); (try clear hcz38_10); (try clear hcz38_11); (try clear hcz38_12); (try clear hcz38_13); (try clear hcz38_14); (try clear hcz38_15); (try clear hcz38_16); (try clear hcz38_17); (try clear hcz38_18); (try clear hcz38_2); (try clear hcz38_3); (try clear hcz38_4); (try clear hcz38_5); (try clear hcz38_6); (try clear hcz38_7); (try clear hcz38_8); (try clear hcz38_9); (try clear hcz47_0); (try clear hcz47_1); (try clear hcz47_10); (try clear hcz47_11); (try clear hcz47_12); (try clear hcz47_13); (try clear hcz47_14); (try clear hcz47_15); (try clear hcz47_16); (try clear hcz47_17); (try clear hcz47_18); (try clear hcz47_2); (try clear hcz47_3); (try clear hcz47_4); (try clear hcz47_5); (try clear hcz47_6); (try clear hcz47_7); (try clear hcz47_8); (try clear hcz47_9); (try clear hcz48_0); (try clear hcz48_1); (try clear hcz48_10); (try clear hcz48_11); (try clear hcz48_12); (try clear hcz48_13); (try clear hcz48_14); (try clear hcz48_15); (try clear hcz48_16); (try clear hcz48_17); (try clear hcz48_18); (try clear hcz48_2); (try clear hcz48_3); (try clear hcz48_4); (try clear hcz48_5); (try clear hcz48_6); (try clear hcz48_7); (try clear hcz48_8); (try clear hcz48_9); (try clear hcz49_0); (try clear hcz49_1); (try clear hcz49_10); (try clear hcz49_11); (try clear hcz49_12); (try clear hcz49_13); (try clear hcz49_14); (try clear hcz49_15); (try clear hcz49_16); (try clear hcz49_17); (try clear hcz49_18); (try clear hcz49_2); (try clear hcz49_3); (try clear hcz49_4); (try clear hcz49_5); (try clear hcz49_6); (try clear hcz49_7); (try clear hcz49_8); (try clear hcz49_9); (try clear hfz11_0); (try clear hfz11_1); (try clear hfz11_10); (try clear hfz11_11); (try clear hfz11_12); (try clear hfz11_13); (try clear hfz11_14); (try clear hfz11_15); (try clear hfz11_16); (try clear hfz11_17); (try clear hfz11_18); (try clear hfz11_2); (try clear hfz11_3); (try clear hfz11_4); (try clear hfz11_5); (try clear hfz11_6); (try clear hfz11_7); (try clear hfz11_8); (try clear hfz11_9); (try clear hfz13_0); (try clear hfz13_1); (try clear hfz13_10); (try clear hfz13_11); (try clear hfz13_12); (try clear hfz13_13); (try clear hfz13_14); (try clear hfz13_15); (try clear hfz13_16); (try clear hfz13_17); (try clear hfz13_18); (try clear hfz13_2); (try clear hfz13_3); (try clear hfz13_4); (try clear hfz13_5); (try clear hfz13_6); (try clear hfz13_7); (try clear hfz13_8); (try clear hfz13_9); (try clear hfz15_0); (try clear hfz15_1); (try clear hfz15_10); (try clear hfz15_11); (try clear hfz15_12); (try clear hfz15_13); (try clear hfz15_14); (try clear hfz15_15); (try clear hfz15_16); (try clear hfz15_17); (try clear hfz15_18); (try clear hfz15_2); (try clear hfz15_3); (try clear hfz15_4); (try clear hfz15_5); (try clear hfz15_6); (try clear hfz15_7); (try clear hfz15_8); (try clear hfz15_9); (try clear hfz17_0); (try clear hfz17_1); (try clear hfz17_10); (try clear hfz17_11); (try clear hfz17_12); (try clear hfz17_13); (try clear hfz17_14); (try clear hfz17_15); (try clear hfz17_16); (try clear hfz17_17); (try clear hfz17_18); (try clear hfz17_2); (try clear hfz17_3); (try clear hfz17_4); (try clear hfz17_5); (try clear hfz17_6); (try clear hfz17_7); (try clear hfz17_8); (try clear hfz17_9); (try clear hfz21_0); (try clear hfz21_1); (try clear hfz21_10); (try clear hfz21_11); (try clear hfz21_12); (try clear hfz21_13); (try clear hfz21_14); (try clear hfz21_15); (try clear hfz21_16); (try clear hfz21_17); (try clear hfz21_18); (try clear hfz21_2); (try clear hfz21_3); (try clear hfz21_4); (try clear hfz21_5); (try clear hfz21_6); (try clear hfz21_7); (try clear hfz21_8); (try clear hfz21_9); (try clear hfz23_0); (try clear hfz23_1); (try clear hfz23_10); (try clear hfz23_11); (try clear hfz23_12); (try clear hfz23_13); (try clear hfz23_14); (try clear hfz23_15); (try clear hfz23_16); (try clear hfz23_17); (try clear hfz23_18); (try clear hfz23_2); (try clear hfz23_3); (try clear hfz23_4); (try clear hfz23_5); (try clear hfz23_6); (try clear hfz23_7); (try clear hfz23_8); (try clear hfz23_9); (try clear hfz25_0); (try clear hfz25_1); (try clear hfz25_10); (try clear hfz25_11); (try clear hfz25_12); (try clear hfz25_13); (try clear hfz25_14); (try clear hfz25_15); (try clear hfz25_16); (try clear hfz25_17); (try clear hfz25_18); (try clear hfz25_2); (try clear hfz25_3); (try clear hfz25_4); (try clear hfz25_5); (try clear hfz25_6); (try clear hfz25_7); (try clear hfz25_8); (try clear hfz25_9); (try clear hfz27_0); (try clear hfz27_1); (try clear hfz27_10); (try clear hfz27_11); (try clear hfz27_12); (try clear hfz27_13); (try clear hfz27_14); (try clear hfz27_15); (try clear hfz27_16); (try clear hfz27_17); (try clear hfz27_18); (try clear hfz27_2); (try clear hfz27_3); (try clear hfz27_4); (try clear hfz27_5); (try clear hfz27_6); (try clear hfz27_7); (try clear hfz27_8); (try clear hfz27_9); (try clear hfz28_0); (try clear hfz28_1); (try clear hfz28_10); (try clear hfz28_11); (try clear hfz28_12); (try clear hfz28_13); (try clear hfz28_14); (try clear hfz28_15); (try clear hfz28_16); (try clear hfz28_17); (try clear hfz28_18); (try clear hfz28_2); (try clear hfz28_3); (try clear hfz28_4); (try clear hfz28_5); (try clear hfz28_6); (try clear hfz28_7); (try clear hfz28_8); (try clear hfz28_9); (try clear hfz30_0); (try clear hfz30_1); (try clear hfz30_10); (try clear hfz30_11); (try clear hfz30_12); (try clear hfz30_13); (try clear hfz30_14); (try clear hfz30_15); (try clear hfz30_16); (try clear hfz30_17); (try clear hfz30_18); (try clear hfz30_2); (try clear hfz30_3); (try clear hfz30_4); (try clear hfz30_5); (try clear hfz30_6); (try clear hfz30_7); (try clear hfz30_8); (try clear hfz30_9); (try clear hfz32_0); (try clear hfz32_1); (try clear hfz32_10); (try clear hfz32_11); (try clear hfz32_12); (try clear hfz32_13); (try clear hfz32_14); (try clear hfz32_15); (try clear hfz32_16); (try clear hfz32_17); (try clear hfz32_18); (try clear hfz32_2); (try clear hfz32_3); (try clear hfz32_4); (try clear hfz32_5); (try clear hfz32_6); (try clear hfz32_7); (try clear hfz32_8); (try clear hfz32_9); (try clear hfz34_0); (try clear hfz34_1); (try clear hfz34_10); (try clear hfz34_11); (try clear hfz34_12); (try clear hfz34_13); (try clear hfz34_14); (try clear hfz34_15); (try clear hfz34_16); (try clear hfz34_17); (try clear hfz34_18); (try clear hfz34_2); (try clear hfz34_3); (try clear hfz34_4); (try clear hfz34_5); (try clear hfz34_6); (try clear hfz34_7); (try clear hfz34_8); (try clear hfz34_9); (try clear hfz36_0); (try clear hfz36_1); (try clear hfz36_10); (try clear hfz36_11); (try clear hfz36_12); (try clear hfz36_13); (try clear hfz36_14); (try clear hfz36_15); (try clear hfz36_16); (try clear hfz36_17); (try clear hfz36_18); (try clear hfz36_2); (try clear hfz36_3); (try clear hfz36_4); (try clear hfz36_5); (try clear hfz36_6); (try clear hfz36_7); (try clear hfz36_8); (try clear hfz36_9); (try clear hfz38_0); (try clear hfz38_1); (try clear hfz38_10); (try clear hfz38_11); (try clear hfz38_12); (try clear hfz38_13); (try clear hfz38_14); (try clear hfz38_15); (try clear hfz38_16); (try clear hfz38_17); (try clear hfz38_18); (try clear hfz38_2); (try clear hfz38_3); (try clear hfz38_4); (try clear hfz38_5); (try clear hfz38_6); (try clear hfz38_7); (try clear hfz38_8); (try clear hfz38_9); (try clear hfz47_0); (try clear hfz47_1); (try clear hfz47_10); (try clear hfz47_11); (try clear hfz47_12); (try clear hfz47_13); (try clear hfz47_14); (try clear hfz47_15); (try clear hfz47_16); (try clear hfz47_17); (try clear hfz47_18); (try clear hfz47_2); (try clear hfz47_3); (try clear hfz47_4); (try clear hfz47_5); (try clear hfz47_6); (try clear hfz47_7); (try clear hfz47_8); (try clear hfz47_9); (try clear hfz48_0); (try clear hfz48_1); (try clear hfz48_10); (try clear hfz48_11); (try clear hfz48_12); (try clear hfz48_13); (try clear hfz48_14); (try clear hfz48_15); (try clear hfz48_16); (try clear hfz48_17); (try clear hfz48_18); (try clear hfz48_2); (try clear hfz48_3); (try clear hfz48_4); (try clear hfz48_5); (try clear hfz48_6); (try clear hfz48_7); (try clear hfz48_8); (try clear hfz48_9); (try clear hfz49_0); (try clear hfz49_1); (try clear hfz49_10); (try clear hfz49_11); (try clear hfz49_12); (try clear hfz49_13); (try clear hfz49_14); (try clear hfz49_15); (try clear hfz49_16); (try clear hfz49_17); (try clear hfz49_18); (try clear hfz49_2); (try clear hfz49_3); (try clear hfz49_4); (try clear hfz49_5); (try clear hfz49_6); (try clear hfz49_7); (try clear hfz49_8); (try clear hfz49_9)
          obtain ⟨kq, x51_40, rfl, HA, HJ40, BK134, HB⟩ := hcut
          cases kq with
          | zero => exact absurd HA.out (by simp [spec_SourceOk.j1])
          | succ kj40 =>
            have H := HA.out
            clear HA
            simp only [spec_SourceOk.j1] at H
            by_cases c50 : x51_40 = true
            · subst c50
              rw [if_pos rfl] at H
              obtain rfl := Option.some.inj H
              go_wp2
              go_ret
              exact ⟨rr, bl⟩
            · replace c50 := Bool.eq_false_iff.mpr c50
              subst c50
              have H1 : ((spec_SizeOf.f kj40 a0_0 a0_1 l0_2 l0_3).bind fun bt141 => (if a0_15 = true then ((spec_PicOk.f a0_16 a0_17 a0_18).bind fun t143 => (if t143 = true then (if a0_16 = bt141.1 then (some (a0_17 == bt141.2)) else (some false)) else (some false))) else (if a0_16 = 0 then (if a0_17 = 0 then (some ((a0_18.size : Int) == 0)) else (some false)) else (some false)))) = some r := by rw [if_neg (show ¬ (false = true) by decide)] at H; exact H
              clear H
              have H := H1
              clear H1
              replace H := Option.bind_eq_some_iff.mp H
              obtain ⟨⟨t141, t142⟩, A510, H⟩ := H
              (try dsimp only at H)
              have A51 := Aside0.mk A510
              clear A510
              by_cases c52 : a0_15 = true
              · subst c52
                rw [if_pos rfl] at H
                replace H := Option.bind_eq_some_iff.mp H
                obtain ⟨t143, A530, H⟩ := H
                (try dsimp only at H)
                have A53 := Aside0.mk A530
                clear A530
                by_cases c54 : t143 = true
                · subst c54
                  rw [if_pos rfl] at H
                  by_cases c55 : a0_16 = t141
                  · rw [if_pos c55] at H
                    have c55b0 : (a0_16 == t141) = true := beq_iff_eq.mpr c55
                    have c55b1 : (a0_16 != t141) = false := bne_eq_false_iff_eq.mpr c55
                    clear c55
                    obtain rfl := Option.some.inj H
                    have hcz56_0 : ∀ i, wc.cell? ⟨gb134, i, none⟩ = _ := blk_cell BK134.out
                    have hcz56_1 : wc.cell? ⟨gb134, 1, none⟩ = some (.int .i64 a0_1) := (blk_cell BK134.out 1).trans rfl
                    have hcz56_2 : wc.cell? ⟨gb134, 2, none⟩ = some (.slice A0_2 l0_2.length c0_2) := (blk_cell BK134.out 2).trans rfl
                    have hcz56_3 : wc.cell? ⟨gb134, 3, none⟩ = some (.slice A0_3 l0_3.length c0_3) := (blk_cell BK134.out 3).trans rfl
                    have hcz56_4 : wc.cell? ⟨gb134, 4, none⟩ = some (.int .i64 a0_4) := (blk_cell BK134.out 4).trans rfl
                    have hcz56_5 : wc.cell? ⟨gb134, 5, none⟩ = some (.bool a0_5) := (blk_cell BK134.out 5).trans rfl
                    have hcz56_6 : wc.cell? ⟨gb134, 6, none⟩ = some (.bool a0_6) := (blk_cell BK134.out 6).trans rfl
                    have hcz56_7 : wc.cell? ⟨gb134, 7, none⟩ = some (.bool a0_7) := (blk_cell BK134.out 7).trans rfl
                    have hcz56_8 : wc.cell? ⟨gb134, 8, none⟩ = some (.int .i64 a0_8) := (blk_cell BK134.out 8).trans rfl
                    have hcz56_9 : wc.cell? ⟨gb134, 9, none⟩ = some (.int .i64 a0_9) := (blk_cell BK134.out 9).trans rfl
                    have hcz56_10 : wc.cell? ⟨gb134, 10, none⟩ = some (.int .i64 a0_10) := (blk_cell BK134.out 10).trans rfl
                    have hcz56_11 : wc.cell? ⟨gb134, 11, none⟩ = some (.int .i64 a0_11) := (blk_cell BK134.out 11).trans rfl
                    have hcz56_12 : wc.cell? ⟨gb134, 12, none⟩ = some (.int .i64 a0_12) := (blk_cell BK134.out 12).trans rfl
                    have hcz56_13 : wc.cell? ⟨gb134, 13, none⟩ = some (.int .i64 a0_13) := (blk_cell BK134.out 13).trans rfl
                    have hcz56_14 : wc.cell? ⟨gb134, 14, none⟩ = some (.int .i64 a0_14) := (blk_cell BK134.out 14).trans rfl
                    have hcz56_15 : wc.cell? ⟨gb134, 15, none⟩ = some (.bool true) := (blk_cell BK134.out 15).trans rfl
                    have hcz56_16 : wc.cell? ⟨gb134, 16, none⟩ = some (.int .i64 a0_16) := (blk_cell BK134.out 16).trans rfl
                    have hcz56_17 : wc.cell? ⟨gb134, 17, none⟩ = some (.int .i64 a0_17) := (blk_cell BK134.out 17).trans rfl
                    have hcz56_18 : wc.cell? ⟨gb134, 18, none⟩ = some (.string a0_18) := (blk_cell BK134.out 18).trans rfl
                    have hfz56_0 := blk_frozen BK134.out
                    have hfz56_1 := blk_frozen BK134.out 1
                    have hfz56_2 := blk_frozen BK134.out 2
                    have hfz56_3 := blk_frozen BK134.out 3
                    have hfz56_4 := blk_frozen BK134.out 4
                    have hfz56_5 := blk_frozen BK134.out 5
                    have hfz56_6 := blk_frozen BK134.out 6
                    have hfz56_7 := blk_frozen BK134.out 7
                    have hfz56_8 := blk_frozen BK134.out 8
                    have hfz56_9 := blk_frozen BK134.out 9
                    have hfz56_10 := blk_frozen BK134.out 10
                    have hfz56_11 := blk_frozen BK134.out 11
                    have hfz56_12 := blk_frozen BK134.out 12
                    have hfz56_13 := blk_frozen BK134.out 13
                    have hfz56_14 := blk_frozen BK134.out 14
                    have hfz56_15 := blk_frozen BK134.out 15
                    have hfz56_16 := blk_frozen BK134.out 16
                    have hfz56_17 := blk_frozen BK134.out 17
                    have hfz56_18 := blk_frozen BK134.out 18
                    go_wp2_with (first | ((with_reducible refine gate_load (t := 85) rfl ?_); refine load_all (g := gb134) (ty := 85) rfl rfl rfl (bx BK134.out) (by kernel_rfl) (by kernel_rfl) ?_; simp only [Act.put, List.setIfInBounds_toArray, List.set_cons_zero, List.set_cons_succ]) | ((with_reducible refine gate_callee (f := 135) rfl ?_); refine goesL_ (some 55) rfl rfl Try.func135 (by kernel_rfl) rfl #[.agg #[.int .i64 a0_0, .int .i64 a0_1, .slice A0_2 l0_2.length c0_2, .slice A0_3 l0_3.length c0_3]] rfl (by (try simp only [List.map_toArray, List.map_cons, List.map_nil]); first | done | rfl | (simp only [List.length_drop, List.length_take]; rfl)) ?_; (with_reducible refine (spec_SizeOf.calls kj40 a0_0 a0_1 _ _ l0_2 _ _ l0_3 t141 t142 _ ?side1 ?side2 ?side3 ?side4 A51.out).mono ?_); (case side1 => repeat (first | exact (Kd.C_below HR0_2.out HB.out) | (with_reducible refine Kd.C_alloc ?_ _) | (with_reducible refine Kd.C_drewN ?_ _) | (with_reducible refine Kd.C_drew ?_))); (case side2 => exact HC0_2.out); (case side3 => repeat (first | exact (Kd.C_below HR0_3.out HB.out) | (with_reducible refine Kd.C_alloc ?_ _) | (with_reducible refine Kd.C_drewN ?_ _) | (with_reducible refine Kd.C_drew ?_))); (case side4 => exact HC0_3.out); rintro e w57 ⟨rfl, hb⟩; refine ⟨_, rfl, ?_⟩; have n0_ := Aside0.mk (blk_below (bx BK134.out) hb); have n1_ := bs HB hb; clear BK134; clear HB; have BK134 := n0_; have HB := n1_; clear n0_ n1_; (try clear hb); (try clear hb2); (try clear hk); (try clear hi); have hcz58_0 : ∀ i, w57.cell? ⟨gb134, i, none⟩ = _ := blk_cell BK134.out; have hfz58_0 := blk_frozen BK134.out) | ((with_reducible refine gate_callee (f := 136) rfl ?_); refine goesL_ (some 62) rfl rfl Try.func136 (by kernel_rfl) rfl #[.agg #[.int .i64 a0_16, .int .i64 a0_17, .string a0_18]] rfl (by (try simp only [List.map_toArray, List.map_cons, List.map_nil]); first | done | rfl | (simp only [List.length_drop, List.length_take]; rfl)) ?_; (with_reducible refine (spec_PicOk.calls a0_16 a0_17 a0_18 true _ A53.out).mono ?_); rintro e w59 ⟨rfl, hb⟩; refine ⟨_, rfl, ?_⟩; have n0_ := Aside0.mk (blk_below (bx BK134.out) hb); have n1_ := bs HB hb; clear BK134; clear HB; have BK134 := n0_; have HB := n1_; clear n0_ n1_; (try clear hb); (try clear hb2); (try clear hk); (try clear hi); have hcz60_0 : ∀ i, w59.cell? ⟨gb134, i, none⟩ = _ := blk_cell BK134.out; have hfz60_0 := blk_frozen BK134.out))
                    go_ret
                    exact ⟨rr, bl⟩
                  · rw [if_neg c55] at H
                    have c55b0 : (a0_16 == t141) = false := beq_eq_false_iff_ne.mpr c55
                    have c55b1 : (a0_16 != t141) = true := bne_iff_ne.mpr c55
                    obtain rfl := Option.some.inj H
                    have hcz61_0 : ∀ i, wc.cell? ⟨gb134, i, none⟩ = _ := blk_cell BK134.out
                    have hcz61_1 : wc.cell? ⟨gb134, 1, none⟩ = some (.int .i64 a0_1) := (blk_cell BK134.out 1).trans rfl
                    have hcz61_2 : wc.cell? ⟨gb134, 2, none⟩ = some (.slice A0_2 l0_2.length c0_2) := (blk_cell BK134.out 2).trans rfl
                    have hcz61_3 : wc.cell? ⟨gb134, 3, none⟩ = some (.slice A0_3 l0_3.length c0_3) := (blk_cell BK134.out 3).trans rfl
                    have hcz61_4 : wc.cell? ⟨gb134, 4, none⟩ = some (.int .i64 a0_4) := (blk_cell BK134.out 4).trans rfl
                    have hcz61_5 : wc.cell? ⟨gb134, 5, none⟩ = some (.bool a0_5) := (blk_cell BK134.out 5).trans rfl
                    have hcz61_6 : wc.cell? ⟨gb134, 6, none⟩ = some (.bool a0_6) := (blk_cell BK134.out 6).trans rfl
                    have hcz61_7 : wc.cell? ⟨gb134, 7, none⟩ = some (.bool a0_7) := (blk_cell BK134.out 7).trans rfl
                    have hcz61_8 : wc.cell? ⟨gb134, 8, none⟩ = some (.int .i64 a0_8) := (blk_cell BK134.out 8).trans rfl
                    have hcz61_9 : wc.cell? ⟨gb134, 9, none⟩ = some (.int .i64 a0_9) := (blk_cell BK134.out 9).trans rfl
                    have hcz61_10 : wc.cell? ⟨gb134, 10, none⟩ = some (.int .i64 a0_10) := (blk_cell BK134.out 10).trans rfl
                    have hcz61_11 : wc.cell? ⟨gb134, 11, none⟩ = some (.int .i64 a0_11) := (blk_cell BK134.out 11).trans rfl
                    have hcz61_12 : wc.cell? ⟨gb134, 12, none⟩ = some (.int .i64 a0_12) := (blk_cell BK134.out 12).trans rfl
                    have hcz61_13 : wc.cell? ⟨gb134, 13, none⟩ = some (.int .i64 a0_13) := (blk_cell BK134.out 13).trans rfl
                    have hcz61_14 : wc.cell? ⟨gb134, 14, none⟩ = some (.int .i64 a0_14) := (blk_cell BK134.out 14).trans rfl
                    have hcz61_15 : wc.cell? ⟨gb134, 15, none⟩ = some (.bool true) := (blk_cell BK134.out 15).trans rfl
                    have hcz61_16 : wc.cell? ⟨gb134, 16, none⟩ = some (.int .i64 a0_16) := (blk_cell BK134.out 16).trans rfl
                    have hcz61_17 : wc.cell? ⟨gb134, 17, none⟩ = some (.int .i64 a0_17) := (blk_cell BK134.out 17).trans rfl
                    have hcz61_18 : wc.cell? ⟨gb134, 18, none⟩ = some (.string a0_18) := (blk_cell BK134.out 18).trans rfl
                    have hfz61_0 := blk_frozen BK134.out
                    have hfz61_1 := blk_frozen BK134.out 1
                    have hfz61_2 := blk_frozen BK134.out 2
                    have hfz61_3 := blk_frozen BK134.out 3
                    have hfz61_4 := blk_frozen BK134.out 4
                    have hfz61_5 := blk_frozen BK134.out 5
                    have hfz61_6 := blk_frozen BK134.out 6
                    have hfz61_7 := blk_frozen BK134.out 7
                    have hfz61_8 := blk_frozen BK134.out 8
                    have hfz61_9 := blk_frozen BK134.out 9
                    have hfz61_10 := blk_frozen BK134.out 10
                    have hfz61_11 := blk_frozen BK134.out 11
                    have hfz61_12 := blk_frozen BK134.out 12
                    have hfz61_13 := blk_frozen BK134.out 13
                    have hfz61_14 := blk_frozen BK134.out 14
                    have hfz61_15 := blk_frozen BK134.out 15
                    have hfz61_16 := blk_frozen BK134.out 16
                    have hfz61_17 := blk_frozen BK134.out 17
                    have hfz61_18 := blk_frozen BK134.out 18
                    go_wp2_with (first | ((with_reducible refine gate_load (t := 85) rfl ?_); refine load_all (g := gb134) (ty := 85) rfl rfl rfl (bx BK134.out) (by kernel_rfl) (by kernel_rfl) ?_; simp only [Act.put, List.setIfInBounds_toArray, List.set_cons_zero, List.set_cons_succ]) | ((with_reducible refine gate_callee (f := 135) rfl ?_); refine goesL_ (some 55) rfl rfl Try.func135 (by kernel_rfl) rfl #[.agg #[.int .i64 a0_0, .int .i64 a0_1, .slice A0_2 l0_2.length c0_2, .slice A0_3 l0_3.length c0_3]] rfl (by (try simp only [List.map_toArray, List.map_cons, List.map_nil]); first | done | rfl | (simp only [List.length_drop, List.length_take]; rfl)) ?_; (with_reducible refine (spec_SizeOf.calls kj40 a0_0 a0_1 _ _ l0_2 _ _ l0_3 t141 t142 _ ?side1 ?side2 ?side3 ?side4 A51.out).mono ?_); (case side1 => repeat (first | exact (Kd.C_below HR0_2.out HB.out) | (with_reducible refine Kd.C_alloc ?_ _) | (with_reducible refine Kd.C_drewN ?_ _) | (with_reducible refine Kd.C_drew ?_))); (case side2 => exact HC0_2.out); (case side3 => repeat (first | exact (Kd.C_below HR0_3.out HB.out) | (with_reducible refine Kd.C_alloc ?_ _) | (with_reducible refine Kd.C_drewN ?_ _) | (with_reducible refine Kd.C_drew ?_))); (case side4 => exact HC0_3.out); rintro e w62 ⟨rfl, hb⟩; refine ⟨_, rfl, ?_⟩; have n0_ := Aside0.mk (blk_below (bx BK134.out) hb); have n1_ := bs HB hb; clear BK134; clear HB; have BK134 := n0_; have HB := n1_; clear n0_ n1_; (try clear hb); (try clear hb2); (try clear hk); (try clear hi); have hcz63_0 : ∀ i, w62.cell? ⟨gb134, i, none⟩ = _ := blk_cell BK134.out; have hfz63_0 := blk_frozen BK134.out) | ((with_reducible refine gate_callee (f := 136) rfl ?_); refine goesL_ (some 62) rfl rfl Try.func136 (by kernel_rfl) rfl #[.agg #[.int .i64 a0_16, .int .i64 a0_17, .string a0_18]] rfl (by (try simp only [List.map_toArray, List.map_cons, List.map_nil]); first | done | rfl | (simp only [List.length_drop, List.length_take]; rfl)) ?_; (with_reducible refine (spec_PicOk.calls a0_16 a0_17 a0_18 true _ A53.out).mono ?_); rintro e w64 ⟨rfl, hb⟩; refine ⟨_, rfl, ?_⟩; have n0_ := Aside0.mk (blk_below (bx BK134.out) hb); have n1_ := bs HB hb; clear BK134; clear HB; have BK134 := n0_; have HB := n1_; clear n0_ n1_; (try clear hb); (try clear hb2); (try clear hk); (try clear hi); have hcz65_0 : ∀ i, w64.cell? ⟨gb134, i, none⟩ = _ := blk_cell BK134.out; have hfz65_0 := blk_frozen BK134.out))
                    go_ret
                    exact ⟨rr, bl⟩
                · replace c54 := Bool.eq_false_iff.mpr c54
                  subst c54
                  have H1 : (some false) = some r := by rw [if_neg (show ¬ (false = true) by decide)] at H; exact H
                  clear H
                  have H := H1
                  clear H1
                  obtain rfl := Option.some.inj H
                  have hcz66_0 : ∀ i, wc.cell? ⟨gb134, i, none⟩ = _ := blk_cell BK134.out
                  have hcz66_1 : wc.cell? ⟨gb134, 1, none⟩ = some (.int .i64 a0_1) := (blk_cell BK134.out 1).trans rfl
                  have hcz66_2 : wc.cell? ⟨gb134, 2, none⟩ = some (.slice A0_2 l0_2.length c0_2) := (blk_cell BK134.out 2).trans rfl
                  have hcz66_3 : wc.cell? ⟨gb134, 3, none⟩ = some (.slice A0_3 l0_3.length c0_3) := (blk_cell BK134.out 3).trans rfl
                  have hcz66_4 : wc.cell? ⟨gb134, 4, none⟩ = some (.int .i64 a0_4) := (blk_cell BK134.out 4).trans rfl
                  have hcz66_5 : wc.cell? ⟨gb134, 5, none⟩ = some (.bool a0_5) := (blk_cell BK134.out 5).trans rfl
                  have hcz66_6 : wc.cell? ⟨gb134, 6, none⟩ = some (.bool a0_6) := (blk_cell BK134.out 6).trans rfl
                  have hcz66_7 : wc.cell? ⟨gb134, 7, none⟩ = some (.bool a0_7) := (blk_cell BK134.out 7).trans rfl
                  have hcz66_8 : wc.cell? ⟨gb134, 8, none⟩ = some (.int .i64 a0_8) := (blk_cell BK134.out 8).trans rfl
                  have hcz66_9 : wc.cell? ⟨gb134, 9, none⟩ = some (.int .i64 a0_9) := (blk_cell BK134.out 9).trans rfl
                  have hcz66_10 : wc.cell? ⟨gb134, 10, none⟩ = some (.int .i64 a0_10) := (blk_cell BK134.out 10).trans rfl
                  have hcz66_11 : wc.cell? ⟨gb134, 11, none⟩ = some (.int .i64 a0_11) := (blk_cell BK134.out 11).trans rfl
                  have hcz66_12 : wc.cell? ⟨gb134, 12, none⟩ = some (.int .i64 a0_12) := (blk_cell BK134.out 12).trans rfl
                  have hcz66_13 : wc.cell? ⟨gb134, 13, none⟩ = some (.int .i64 a0_13) := (blk_cell BK134.out 13).trans rfl
                  have hcz66_14 : wc.cell? ⟨gb134, 14, none⟩ = some (.int .i64 a0_14) := (blk_cell BK134.out 14).trans rfl
                  have hcz66_15 : wc.cell? ⟨gb134, 15, none⟩ = some (.bool true) := (blk_cell BK134.out 15).trans rfl
                  have hcz66_16 : wc.cell? ⟨gb134, 16, none⟩ = some (.int .i64 a0_16) := (blk_cell BK134.out 16).trans rfl
                  have hcz66_17 : wc.cell? ⟨gb134, 17, none⟩ = some (.int .i64 a0_17) := (blk_cell BK134.out 17).trans rfl
                  have hcz66_18 : wc.cell? ⟨gb134, 18, none⟩ = some (.string a0_18) := (blk_cell BK134.out 18).trans rfl
                  have hfz66_0 := blk_frozen BK134.out
                  have hfz66_1 := blk_frozen BK134.out 1
                  have hfz66_2 := blk_frozen BK134.out 2
                  have hfz66_3 := blk_frozen BK134.out 3
                  have hfz66_4 := blk_frozen BK134.out 4
                  have hfz66_5 := blk_frozen BK134.out 5
                  have hfz66_6 := blk_frozen BK134.out 6
                  have hfz66_7 := blk_frozen BK134.out 7
                  have hfz66_8 := blk_frozen BK134.out 8
                  have hfz66_9 := blk_frozen BK134.out 9
                  have hfz66_10 := blk_frozen BK134.out 10
                  have hfz66_11 := blk_frozen BK134.out 11
                  have hfz66_12 := blk_frozen BK134.out 12
                  have hfz66_13 := blk_frozen BK134.out 13
                  have hfz66_14 := blk_frozen BK134.out 14
                  have hfz66_15 := blk_frozen BK134.out 15
                  have hfz66_16 := blk_frozen BK134.out 16
                  have hfz66_17 := blk_frozen BK134.out 17
                  have hfz66_18 := blk_frozen BK134.out 18
                  go_wp2_with (first | ((with_reducible refine gate_load (t := 85) rfl ?_); refine load_all (g := gb134) (ty := 85) rfl rfl rfl (bx BK134.out) (by kernel_rfl) (by kernel_rfl) ?_; simp only [Act.put, List.setIfInBounds_toArray, List.set_cons_zero, List.set_cons_succ]) | ((with_reducible refine gate_callee (f := 135) rfl ?_); refine goesL_ (some 55) rfl rfl Try.func135 (by kernel_rfl) rfl #[.agg #[.int .i64 a0_0, .int .i64 a0_1, .slice A0_2 l0_2.length c0_2, .slice A0_3 l0_3.length c0_3]] rfl (by (try simp only [List.map_toArray, List.map_cons, List.map_nil]); first | done | rfl | (simp only [List.length_drop, List.length_take]; rfl)) ?_; (with_reducible refine (spec_SizeOf.calls kj40 a0_0 a0_1 _ _ l0_2 _ _ l0_3 t141 t142 _ ?side1 ?side2 ?side3 ?side4 A51.out).mono ?_); (case side1 => repeat (first | exact (Kd.C_below HR0_2.out HB.out) | (with_reducible refine Kd.C_alloc ?_ _) | (with_reducible refine Kd.C_drewN ?_ _) | (with_reducible refine Kd.C_drew ?_))); (case side2 => exact HC0_2.out); (case side3 => repeat (first | exact (Kd.C_below HR0_3.out HB.out) | (with_reducible refine Kd.C_alloc ?_ _) | (with_reducible refine Kd.C_drewN ?_ _) | (with_reducible refine Kd.C_drew ?_))); (case side4 => exact HC0_3.out); rintro e w67 ⟨rfl, hb⟩; refine ⟨_, rfl, ?_⟩; have n0_ := Aside0.mk (blk_below (bx BK134.out) hb); have n1_ := bs HB hb; clear BK134; clear HB; have BK134 := n0_; have HB := n1_; clear n0_ n1_; (try clear hb); (try clear hb2); (try clear hk); (try clear hi); have hcz68_0 : ∀ i, w67.cell? ⟨gb134, i, none⟩ = _ := blk_cell BK134.out; have hfz68_0 := blk_frozen BK134.out) | ((with_reducible refine gate_callee (f := 136) rfl ?_); refine goesL_ (some 62) rfl rfl Try.func136 (by kernel_rfl) rfl #[.agg #[.int .i64 a0_16, .int .i64 a0_17, .string a0_18]] rfl (by (try simp only [List.map_toArray, List.map_cons, List.map_nil]); first | done | rfl | (simp only [List.length_drop, List.length_take]; rfl)) ?_; (with_reducible refine (spec_PicOk.calls a0_16 a0_17 a0_18 false _ A53.out).mono ?_); rintro e w69 ⟨rfl, hb⟩; refine ⟨_, rfl, ?_⟩; have n0_ := Aside0.mk (blk_below (bx BK134.out) hb); have n1_ := bs HB hb; clear BK134; clear HB; have BK134 := n0_; have HB := n1_; clear n0_ n1_; (try clear hb); (try clear hb2); (try clear hk); (try clear hi)))
                  go_ret
                  exact ⟨rr, bl⟩
              · replace c52 := Bool.eq_false_iff.mpr c52
                subst c52
                have H1 : (if a0_16 = 0 then (if a0_17 = 0 then (some ((a0_18.size : Int) == 0)) else (some false)) else (some false)) = some r := by rw [if_neg (show ¬ (false = true) by decide)] at H; exact H
                clear H
                have H := H1
                clear H1
                by_cases c70 : a0_16 = 0
                · rw [if_pos c70] at H
                  have c70b0 : (a0_16 == 0) = true := beq_iff_eq.mpr c70
                  have c70b1 : (a0_16 != 0) = false := bne_eq_false_iff_eq.mpr c70
                  clear c70
                  by_cases c71 : a0_17 = 0
                  · rw [if_pos c71] at H
                    have c71b0 : (a0_17 == 0) = true := beq_iff_eq.mpr c71
                    have c71b1 : (a0_17 != 0) = false := bne_eq_false_iff_eq.mpr c71
                    clear c71
                    obtain rfl := Option.some.inj H
                    have hcz72_0 : ∀ i, wc.cell? ⟨gb134, i, none⟩ = _ := blk_cell BK134.out
                    have hcz72_1 : wc.cell? ⟨gb134, 1, none⟩ = some (.int .i64 a0_1) := (blk_cell BK134.out 1).trans rfl
                    have hcz72_2 : wc.cell? ⟨gb134, 2, none⟩ = some (.slice A0_2 l0_2.length c0_2) := (blk_cell BK134.out 2).trans rfl
                    have hcz72_3 : wc.cell? ⟨gb134, 3, none⟩ = some (.slice A0_3 l0_3.length c0_3) := (blk_cell BK134.out 3).trans rfl
                    have hcz72_4 : wc.cell? ⟨gb134, 4, none⟩ = some (.int .i64 a0_4) := (blk_cell BK134.out 4).trans rfl
                    have hcz72_5 : wc.cell? ⟨gb134, 5, none⟩ = some (.bool a0_5) := (blk_cell BK134.out 5).trans rfl
                    have hcz72_6 : wc.cell? ⟨gb134, 6, none⟩ = some (.bool a0_6) := (blk_cell BK134.out 6).trans rfl
                    have hcz72_7 : wc.cell? ⟨gb134, 7, none⟩ = some (.bool a0_7) := (blk_cell BK134.out 7).trans rfl
                    have hcz72_8 : wc.cell? ⟨gb134, 8, none⟩ = some (.int .i64 a0_8) := (blk_cell BK134.out 8).trans rfl
                    have hcz72_9 : wc.cell? ⟨gb134, 9, none⟩ = some (.int .i64 a0_9) := (blk_cell BK134.out 9).trans rfl
                    have hcz72_10 : wc.cell? ⟨gb134, 10, none⟩ = some (.int .i64 a0_10) := (blk_cell BK134.out 10).trans rfl
                    have hcz72_11 : wc.cell? ⟨gb134, 11, none⟩ = some (.int .i64 a0_11) := (blk_cell BK134.out 11).trans rfl
                    have hcz72_12 : wc.cell? ⟨gb134, 12, none⟩ = some (.int .i64 a0_12) := (blk_cell BK134.out 12).trans rfl
                    have hcz72_13 : wc.cell? ⟨gb134, 13, none⟩ = some (.int .i64 a0_13) := (blk_cell BK134.out 13).trans rfl
                    have hcz72_14 : wc.cell? ⟨gb134, 14, none⟩ = some (.int .i64 a0_14) := (blk_cell BK134.out 14).trans rfl
                    have hcz72_15 : wc.cell? ⟨gb134, 15, none⟩ = some (.bool false) := (blk_cell BK134.out 15).trans rfl
                    have hcz72_16 : wc.cell? ⟨gb134, 16, none⟩ = some (.int .i64 a0_16) := (blk_cell BK134.out 16).trans rfl
                    have hcz72_17 : wc.cell? ⟨gb134, 17, none⟩ = some (.int .i64 a0_17) := (blk_cell BK134.out 17).trans rfl
                    have hcz72_18 : wc.cell? ⟨gb134, 18, none⟩ = some (.string a0_18) := (blk_cell BK134.out 18).trans rfl
                    have hfz72_0 := blk_frozen BK134.out
                    have hfz72_1 := blk_frozen BK134.out 1
                    have hfz72_2 := blk_frozen BK134.out 2
                    have hfz72_3 := blk_frozen BK134.out 3
                    have hfz72_4 := blk_frozen BK134.out 4
                    have hfz72_5 := blk_frozen BK134.out 5
                    have hfz72_6 := blk_frozen BK134.out 6
                    have hfz72_7 := blk_frozen BK134.out 7
                    have hfz72_8 := blk_frozen BK134.out 8
                    have hfz72_9 := blk_frozen BK134.out 9
                    have hfz72_10 := blk_frozen BK134.out 10
                    have hfz72_11 := blk_frozen BK134.out 11
                    have hfz72_12 := blk_frozen BK134.out 12
                    have hfz72_13 := blk_frozen BK134.out 13
                    have hfz72_14 := blk_frozen BK134.out 14
                    have hfz72_15 := blk_frozen BK134.out 15
                    have hfz72_16 := blk_frozen BK134.out 16
                    have hfz72_17 := blk_frozen BK134.out 17
                    have hfz72_18 := blk_frozen BK134.out 18
                    go_wp2_with (first | ((with_reducible refine gate_load (t := 85) rfl ?_); refine load_all (g := gb134) (ty := 85) rfl rfl rfl (bx BK134.out) (by kernel_rfl) (by kernel_rfl) ?_; simp only [Act.put, List.setIfInBounds_toArray, List.set_cons_zero, List.set_cons_succ]) | ((with_reducible refine gate_callee (f := 135) rfl ?_); refine goesL_ (some 55) rfl rfl Try.func135 (by kernel_rfl) rfl #[.agg #[.int .i64 a0_0, .int .i64 a0_1, .slice A0_2 l0_2.length c0_2, .slice A0_3 l0_3.length c0_3]] rfl (by (try simp only [List.map_toArray, List.map_cons, List.map_nil]); first | done | rfl | (simp only [List.length_drop, List.length_take]; rfl)) ?_; (with_reducible refine (spec_SizeOf.calls kj40 a0_0 a0_1 _ _ l0_2 _ _ l0_3 t141 t142 _ ?side1 ?side2 ?side3 ?side4 A51.out).mono ?_); (case side1 => repeat (first | exact (Kd.C_below HR0_2.out HB.out) | (with_reducible refine Kd.C_alloc ?_ _) | (with_reducible refine Kd.C_drewN ?_ _) | (with_reducible refine Kd.C_drew ?_))); (case side2 => exact HC0_2.out); (case side3 => repeat (first | exact (Kd.C_below HR0_3.out HB.out) | (with_reducible refine Kd.C_alloc ?_ _) | (with_reducible refine Kd.C_drewN ?_ _) | (with_reducible refine Kd.C_drew ?_))); (case side4 => exact HC0_3.out); rintro e w73 ⟨rfl, hb⟩; refine ⟨_, rfl, ?_⟩; have n0_ := Aside0.mk (blk_below (bx BK134.out) hb); have n1_ := bs HB hb; clear BK134; clear HB; have BK134 := n0_; have HB := n1_; clear n0_ n1_; (try clear hb); (try clear hb2); (try clear hk); (try clear hi); have hcz74_0 : ∀ i, w73.cell? ⟨gb134, i, none⟩ = _ := blk_cell BK134.out; have hfz74_0 := blk_frozen BK134.out))
                    go_ret
                    exact ⟨rr, bl⟩
                  · rw [if_neg c71] at H
                    have c71b0 : (a0_17 == 0) = false := beq_eq_false_iff_ne.mpr c71
                    have c71b1 : (a0_17 != 0) = true := bne_iff_ne.mpr c71
                    obtain rfl := Option.some.inj H
                    have hcz75_0 : ∀ i, wc.cell? ⟨gb134, i, none⟩ = _ := blk_cell BK134.out
                    have hcz75_1 : wc.cell? ⟨gb134, 1, none⟩ = some (.int .i64 a0_1) := (blk_cell BK134.out 1).trans rfl
                    have hcz75_2 : wc.cell? ⟨gb134, 2, none⟩ = some (.slice A0_2 l0_2.length c0_2) := (blk_cell BK134.out 2).trans rfl
                    have hcz75_3 : wc.cell? ⟨gb134, 3, none⟩ = some (.slice A0_3 l0_3.length c0_3) := (blk_cell BK134.out 3).trans rfl
                    have hcz75_4 : wc.cell? ⟨gb134, 4, none⟩ = some (.int .i64 a0_4) := (blk_cell BK134.out 4).trans rfl
                    have hcz75_5 : wc.cell? ⟨gb134, 5, none⟩ = some (.bool a0_5) := (blk_cell BK134.out 5).trans rfl
                    have hcz75_6 : wc.cell? ⟨gb134, 6, none⟩ = some (.bool a0_6) := (blk_cell BK134.out 6).trans rfl
                    have hcz75_7 : wc.cell? ⟨gb134, 7, none⟩ = some (.bool a0_7) := (blk_cell BK134.out 7).trans rfl
                    have hcz75_8 : wc.cell? ⟨gb134, 8, none⟩ = some (.int .i64 a0_8) := (blk_cell BK134.out 8).trans rfl
                    have hcz75_9 : wc.cell? ⟨gb134, 9, none⟩ = some (.int .i64 a0_9) := (blk_cell BK134.out 9).trans rfl
                    have hcz75_10 : wc.cell? ⟨gb134, 10, none⟩ = some (.int .i64 a0_10) := (blk_cell BK134.out 10).trans rfl
                    have hcz75_11 : wc.cell? ⟨gb134, 11, none⟩ = some (.int .i64 a0_11) := (blk_cell BK134.out 11).trans rfl
                    have hcz75_12 : wc.cell? ⟨gb134, 12, none⟩ = some (.int .i64 a0_12) := (blk_cell BK134.out 12).trans rfl
                    have hcz75_13 : wc.cell? ⟨gb134, 13, none⟩ = some (.int .i64 a0_13) := (blk_cell BK134.out 13).trans rfl
                    have hcz75_14 : wc.cell? ⟨gb134, 14, none⟩ = some (.int .i64 a0_14) := (blk_cell BK134.out 14).trans rfl
                    have hcz75_15 : wc.cell? ⟨gb134, 15, none⟩ = some (.bool false) := (blk_cell BK134.out 15).trans rfl
                    have hcz75_16 : wc.cell? ⟨gb134, 16, none⟩ = some (.int .i64 a0_16) := (blk_cell BK134.out 16).trans rfl
                    have hcz75_17 : wc.cell? ⟨gb134, 17, none⟩ = some (.int .i64 a0_17) := (blk_cell BK134.out 17).trans rfl
                    have hcz75_18 : wc.cell? ⟨gb134, 18, none⟩ = some (.string a0_18) := (blk_cell BK134.out 18).trans rfl
                    have hfz75_0 := blk_frozen BK134.out
                    have hfz75_1 := blk_frozen BK134.out 1
                    have hfz75_2 := blk_frozen BK134.out 2
                    have hfz75_3 := blk_frozen BK134.out 3
                    have hfz75_4 := blk_frozen BK134.out 4
                    have hfz75_5 := blk_frozen BK134.out 5
                    have hfz75_6 := blk_frozen BK134.out 6
                    have hfz75_7 := blk_frozen BK134.out 7
                    have hfz75_8 := blk_frozen BK134.out 8
                    have hfz75_9 := blk_frozen BK134.out 9
                    have hfz75_10 := blk_frozen BK134.out 10
                    have hfz75_11 := blk_frozen BK134.out 11
                    have hfz75_12 := blk_frozen BK134.out 12
                    have hfz75_13 := blk_frozen BK134.out 13
                    have hfz75_14 := blk_frozen BK134.out 14
                    have hfz75_15 := blk_frozen BK134.out 15
                    have hfz75_16 := blk_frozen BK134.out 16
                    have hfz75_17 := blk_frozen BK134.out 17
                    have hfz75_18 := blk_frozen BK134.out 18
                    go_wp2_with (first | ((with_reducible refine gate_load (t := 85) rfl ?_); refine load_all (g := gb134) (ty := 85) rfl rfl rfl (bx BK134.out) (by kernel_rfl) (by kernel_rfl) ?_; simp only [Act.put, List.setIfInBounds_toArray, List.set_cons_zero, List.set_cons_succ]) | ((with_reducible refine gate_callee (f := 135) rfl ?_); refine goesL_ (some 55) rfl rfl Try.func135 (by kernel_rfl) rfl #[.agg #[.int .i64 a0_0, .int .i64 a0_1, .slice A0_2 l0_2.length c0_2, .slice A0_3 l0_3.length c0_3]] rfl (by (try simp only [List.map_toArray, List.map_cons, List.map_nil]); first | done | rfl | (simp only [List.length_drop, List.length_take]; rfl)) ?_; (with_reducible refine (spec_SizeOf.calls kj40 a0_0 a0_1 _ _ l0_2 _ _ l0_3 t141 t142 _ ?side1 ?side2 ?side3 ?side4 A51.out).mono ?_); (case side1 => repeat (first | exact (Kd.C_below HR0_2.out HB.out) | (with_reducible refine Kd.C_alloc ?_ _) | (with_reducible refine Kd.C_drewN ?_ _) | (with_reducible refine Kd.C_drew ?_))); (case side2 => exact HC0_2.out); (case side3 => repeat (first | exact (Kd.C_below HR0_3.out HB.out) | (with_reducible refine Kd.C_alloc ?_ _) | (with_reducible refine Kd.C_drewN ?_ _) | (with_reducible refine Kd.C_drew ?_))); (case side4 => exact HC0_3.out); rintro e w76 ⟨rfl, hb⟩; refine ⟨_, rfl, ?_⟩; have n0_ := Aside0.mk (blk_below (bx BK134.out) hb); have n1_ := bs HB hb; clear BK134; clear HB; have BK134 := n0_; have HB := n1_; clear n0_ n1_; (try clear hb); (try clear hb2); (try clear hk); (try clear hi); have hcz77_0 : ∀ i, w76.cell? ⟨gb134, i, none⟩ = _ := blk_cell BK134.out; have hfz77_0 := blk_frozen BK134.out))
                    go_ret
                    exact ⟨rr, bl⟩
                · rw [if_neg c70] at H
                  have c70b0 : (a0_16 == 0) = false := beq_eq_false_iff_ne.mpr c70
                  have c70b1 : (a0_16 != 0) = true := bne_iff_ne.mpr c70
                  obtain rfl := Option.some.inj H
                  have hcz78_0 : ∀ i, wc.cell? ⟨gb134, i, none⟩ = _ := blk_cell BK134.out
                  have hcz78_1 : wc.cell? ⟨gb134, 1, none⟩ = some (.int .i64 a0_1) := (blk_cell BK134.out 1).trans rfl
                  have hcz78_2 : wc.cell? ⟨gb134, 2, none⟩ = some (.slice A0_2 l0_2.length c0_2) := (blk_cell BK134.out 2).trans rfl
                  have hcz78_3 : wc.cell? ⟨gb134, 3, none⟩ = some (.slice A0_3 l0_3.length c0_3) := (blk_cell BK134.out 3).trans rfl
                  have hcz78_4 : wc.cell? ⟨gb134, 4, none⟩ = some (.int .i64 a0_4) := (blk_cell BK134.out 4).trans rfl
                  have hcz78_5 : wc.cell? ⟨gb134, 5, none⟩ = some (.bool a0_5) := (blk_cell BK134.out 5).trans rfl
                  have hcz78_6 : wc.cell? ⟨gb134, 6, none⟩ = some (.bool a0_6) := (blk_cell BK134.out 6).trans rfl
                  have hcz78_7 : wc.cell? ⟨gb134, 7, none⟩ = some (.bool a0_7) := (blk_cell BK134.out 7).trans rfl
                  have hcz78_8 : wc.cell? ⟨gb134, 8, none⟩ = some (.int .i64 a0_8) := (blk_cell BK134.out 8).trans rfl
                  have hcz78_9 : wc.cell? ⟨gb134, 9, none⟩ = some (.int .i64 a0_9) := (blk_cell BK134.out 9).trans rfl
                  have hcz78_10 : wc.cell? ⟨gb134, 10, none⟩ = some (.int .i64 a0_10) := (blk_cell BK134.out 10).trans rfl
                  have hcz78_11 : wc.cell? ⟨gb134, 11, none⟩ = some (.int .i64 a0_11) := (blk_cell BK134.out 11).trans rfl
                  have hcz78_12 : wc.cell? ⟨gb134, 12, none⟩ = some (.int .i64 a0_12) := (blk_cell BK134.out 12).trans rfl
                  have hcz78_13 : wc.cell? ⟨gb134, 13, none⟩ = some (.int .i64 a0_13) := (blk_cell BK134.out 13).trans rfl
                  have hcz78_14 : wc.cell? ⟨gb134, 14, none⟩ = some (.int .i64 a0_14) := (blk_cell BK134.out 14).trans rfl
                  have hcz78_15 : wc.cell? ⟨gb134, 15, none⟩ = some (.bool false) := (blk_cell BK134.out 15).trans rfl
                  have hcz78_16 : wc.cell? ⟨gb134, 16, none⟩ = some (.int .i64 a0_16) := (blk_cell BK134.out 16).trans rfl
                  have hcz78_17 : wc.cell? ⟨gb134, 17, none⟩ = some (.int .i64 a0_17) := (blk_cell BK134.out 17).trans rfl
                  have hcz78_18 : wc.cell? ⟨gb134, 18, none⟩ = some (.string a0_18) := (blk_cell BK134.out 18).trans rfl
                  have hfz78_0 := blk_frozen BK134.out
                  have hfz78_1 := blk_frozen BK134.out 1
                  have hfz78_2 := blk_frozen BK134.out 2
                  have hfz78_3 := blk_frozen BK134.out 3
                  have hfz78_4 := blk_frozen BK134.out 4
                  have hfz78_5 := blk_frozen BK134.out 5
                  have hfz78_6 := blk_frozen BK134.out 6
                  have hfz78_7 := blk_frozen BK134.out 7
                  have hfz78_8 := blk_frozen BK134.out 8
                  have hfz78_9 := blk_frozen BK134.out 9
                  have hfz78_10 := blk_frozen BK134.out 10
                  have hfz78_11 := blk_frozen BK134.out 11
                  have hfz78_12 := blk_frozen BK134.out 12
                  have hfz78_13 := blk_frozen BK134.out 13
                  have hfz78_14 := blk_frozen BK134.out 14
                  have hfz78_15 := blk_frozen BK134.out 15
                  have hfz78_16 := blk_frozen BK134.out 16
                  have hfz78_17 := blk_frozen BK134.out 17
                  have hfz78_18 := blk_frozen BK134.out 18
                  go_wp2_with (first | ((with_reducible refine gate_load (t := 85) rfl ?_); refine load_all (g := gb134) (ty := 85) rfl rfl rfl (bx BK134.out) (by kernel_rfl) (by kernel_rfl) ?_; simp only [Act.put, List.setIfInBounds_toArray, List.set_cons_zero, List.set_cons_succ]) | ((with_reducible refine gate_callee (f := 135) rfl ?_); refine goesL_ (some 55) rfl rfl Try.func135 (by kernel_rfl) rfl #[.agg #[.int .i64 a0_0, .int .i64 a0_1, .slice A0_2 l0_2.length c0_2, .slice A0_3 l0_3.length c0_3]] rfl (by (try simp only [List.map_toArray, List.map_cons, List.map_nil]); first | done | rfl | (simp only [List.length_drop, List.length_take]; rfl)) ?_; (with_reducible refine (spec_SizeOf.calls kj40 a0_0 a0_1 _ _ l0_2 _ _ l0_3 t141 t142 _ ?side1 ?side2 ?side3 ?side4 A51.out).mono ?_); (case side1 => repeat (first | exact (Kd.C_below HR0_2.out HB.out) | (with_reducible refine Kd.C_alloc ?_ _) | (with_reducible refine Kd.C_drewN ?_ _) | (with_reducible refine Kd.C_drew ?_))); (case side2 => exact HC0_2.out); (case side3 => repeat (first | exact (Kd.C_below HR0_3.out HB.out) | (with_reducible refine Kd.C_alloc ?_ _) | (with_reducible refine Kd.C_drewN ?_ _) | (with_reducible refine Kd.C_drew ?_))); (case side4 => exact HC0_3.out); rintro e w79 ⟨rfl, hb⟩; refine ⟨_, rfl, ?_⟩; have n0_ := Aside0.mk (blk_below (bx BK134.out) hb); have n1_ := bs HB hb; clear BK134; clear HB; have BK134 := n0_; have HB := n1_; clear n0_ n1_; (try clear hb); (try clear hb2); (try clear hk); (try clear hi); have hcz80_0 : ∀ i, w79.cell? ⟨gb134, i, none⟩ = _ := blk_cell BK134.out; have hfz80_0 := blk_frozen BK134.out))
                  go_ret
                  exact ⟨rr, bl⟩

end Go.Proofs.Ytlfbcmhjopichaa.QFnExactKeyDue
