/- Contracts of the functions that a law reaches: each Go function comes to what its Lean function tells. Written by this session's own program. Conditions: as each statement tells. -/
import Derived.Test.YtlfbcmhjopichaaQFnExactSkipPartx0
import Derived.Test.YtlfbcmhjopichaaQFnExactSkipPartx1
import Derived.Test.YtlfbcmhjopichaaQFnExactSkipPartx4
namespace Go.Proofs.Ytlfbcmhjopichaa.QFnExactSkipPart
open Go.RowKit Go.Proofs.YtlfbcmhjopichaaW.PrintWords Go.Proofs.YtlfbcmhjopichaaW.PrintLast Go.Proofs.YtlfbcmhjopichaaW.PrintMore
attribute [local go_sem] i64_w i32_w w64_m256 max2_int min2_int max_two min_two max_three min_three max_four min_four   -- for this text's walks alone
set_option linter.unusedVariables false
set_option linter.unusedSimpArgs false

/-! ### impl_TileRow: function 139 -/
def impl_TileRow.l0 : Nat → List Int → List (S122) → Int → Int → Bool → Int → Bool → Bool → Option (ByteArray × Bool)
  | 0, _, _, _, _, _, _, _, _ => none
  | k + 1, x6, x16, x17, x18, x218000, x218001, x218002, x218003 => if x18 < x17 then (if 0 ≤ x18 then (if x18 < (x16.length : Int) then ((impl_SquareRow.f k ((rd_T122 x16 x18).f0) ((rd_T122 x16 x18).f1) ((rd_T122 x16 x18).f2) ((rd_T122 x16 x18).f3) ((rd_T122 x16 x18).f4) x218000 x218001 x218002 x218003).bind fun bt224 => (if bt224.2 = true then (if x6.length + bt224.1.size < 140737488355328 then (impl_TileRow.l0 k (x6 ++ bytesOf bt224.1) x16 x17 (wrap64 (x18 + 1)) x218000 x218001 x218002 x218003) else (none)) else (some ((⟨#[]⟩ : ByteArray), false)))) else (none)) else (none)) else (some (strOfNums x6, true))
def impl_TileRow.f (k : Nat) (l0 : List (S122)) (a1_0 : Bool) (a1_1 : Int) (a1_2 : Bool) (a1_3 : Bool) : Option (ByteArray × Bool) := (impl_within.f (l0.length : Int) 1 64).bind fun t218 => (if t218 = true then (impl_TileRow.l0 k (([] : List Int)) l0 (l0.length : Int) 0 a1_0 a1_1 a1_2 a1_3) else (some ((⟨#[]⟩ : ByteArray), false)))
theorem impl_TileRow.mono_l : ∀ k, (∀ y0 y1 y2 y3 y4 y5 y6 y7, LeO (impl_TileRow.l0 k y0 y1 y2 y3 y4 y5 y6 y7) (impl_TileRow.l0 (k + 1) y0 y1 y2 y3 y4 y5 y6 y7))
  | 0 => fun _ _ _ _ _ _ _ _ r h => by simp [impl_TileRow.l0] at h
  | k + 1 => by
    have ih0 := impl_TileRow.mono_l k
    · intro y0 y1 y2 y3 y4 y5 y6 y7
      unfold impl_TileRow.l0
      repeat' first
      | (with_reducible exact ih0 _ _ _ _ _ _ _ _)
      | (with_reducible exact impl_SquareRow.mono _ _ _ _ _ _ _ _ _ _)
      | (with_reducible exact LeO.refl _)
      | (with_reducible exact LeO.none _)
      | (with_reducible refine LeO.ite ?_ ?_)
      | (with_reducible refine LeO.bind ?_ (fun _ => ?_))
      | exact ih0 _ _ _ _ _ _ _ _
      | exact impl_SquareRow.mono _ _ _ _ _ _ _ _ _ _
      | exact LeO.none _
      | refine LeO.ite ?_ ?_
      | refine LeO.bind ?_ (fun _ => ?_)
theorem impl_TileRow.mono : ∀ a0 a1 a2 a3 a4 k, LeO (impl_TileRow.f k a0 a1 a2 a3 a4) (impl_TileRow.f (k + 1) a0 a1 a2 a3 a4) := by
  intro a0 a1 a2 a3 a4 k
  have ih0 := impl_TileRow.mono_l k
  unfold impl_TileRow.f
  repeat' first
      | (with_reducible exact ih0 _ _ _ _ _ _ _ _)
      | (with_reducible exact impl_SquareRow.mono _ _ _ _ _ _ _ _ _ _)
      | (with_reducible exact LeO.refl _)
      | (with_reducible exact LeO.none _)
      | (with_reducible refine LeO.ite ?_ ?_)
      | (with_reducible refine LeO.bind ?_ (fun _ => ?_))
      | exact ih0 _ _ _ _ _ _ _ _
      | exact impl_SquareRow.mono _ _ _ _ _ _ _ _ _ _
      | exact LeO.none _
      | refine LeO.ite ?_ ?_
      | refine LeO.bind ?_ (fun _ => ?_)
set_option maxHeartbeats 8000000 in
set_option maxRecDepth 100000 in
theorem impl_TileRow.calls (k : Nat) (A0 : Option Addr) (c0 : Nat) (l0 : List (S122)) (a1_0 : Bool) (a1_1 : Int) (a1_2 : Bool) (a1_3 : Bool) (r1 : ByteArray) (r2 : Bool) (w : World) (hr0 : Kd.C k122 w A0 l0.length l0) (hc0 : l0.length ≤ c0) (h : impl_TileRow.f k l0 a1_0 a1_1 a1_2 a1_3 = some (r1, r2)) :
    Calls Try.prog 139 #[.slice A0 l0.length c0, .agg #[.bool a1_0, .int .i64 a1_1, .bool a1_2, .bool a1_3]] w fun e w' => e = .returned (.tuple #[.string r1, .bool r2]) ∧ Below w.heap.size w w' := by
  have hu133 := Try.underlying133
  have hu122 := Try.underlying122
  have HR0 := Aside0.mk hr0
  have HC0 := Aside0.mk hc0
  clear hr0 hc0
  have HB := Aside0.mk (Below.refl w.heap.size w)
  have H : ((impl_within.f (l0.length : Int) 1 64).bind fun t218 => (if t218 = true then (impl_TileRow.l0 k (([] : List Int)) l0 (l0.length : Int) 0 a1_0 a1_1 a1_2 a1_3) else (some ((⟨#[]⟩ : ByteArray), false)))) = some (r1, r2) := h
  clear h
  replace H := Option.bind_eq_some_iff.mp H
  obtain ⟨t218, A30, H⟩ := H
  (try dsimp only at H)
  have A3 := Aside0.mk A30
  clear A30
  by_cases c4 : t218 = true
  · subst c4
    rw [if_pos rfl] at H
    obtain ⟨y219, hy219⟩ : ∃ y_ : List Int, y_ = (([] : List Int)) := ⟨_, rfl⟩
    replace H : (impl_TileRow.l0 k y219 l0 (l0.length : Int) 0 a1_0 a1_1 a1_2 a1_3) = some (r1, r2) := by first | (rw [hy219]; with_reducible exact H) | (have H2_ := (Option.bind_some _ _).symm.trans H; rw [hy219]; with_reducible exact H2_) | (have H2_ := (Option.bind_some _ _).symm.trans H; with_reducible exact H2_) | with_reducible exact H | (rw [hy219]; exact H) | exact H
    have Ny219 := Aside0.mk hy219
    clear hy219
    have H' := Aside0.mk H
    clear H
    go_enter Try.func139, Try.ntmps139
    go_wp2_with (first | ((with_reducible refine gate_dst (N := 3) rfl ?_); refine box_event ?hg (N := 3) ?hd (cs := #[.bool a1_0, .int .i64 a1_1, .bool a1_2, .bool a1_3]) (t := 133) ?hr ?_; (case hd => rfl); (case hg => rfl); (case hr => first | (go_simp; done) | (go_simp; rfl)); intro gb217 hg w5 hbox hb; have n0_ := bs HB hb; have n1_ := Aside0.mk (hbox); have n2_ := bz hg; have n3_ := bz hg; clear HB; have HB := n0_; have BK217 := n1_; have GW217 := n2_; have GE217 := n3_; clear n0_ n1_ n2_ n3_; clear hb hbox hg) | ((with_reducible refine gate_callee (f := 78) rfl ?_); refine goesL_ (some 13) rfl rfl Try.func78 (by kernel_rfl) rfl #[.int .i64 (l0.length : Int), .int .i64 1, .int .i64 64] rfl (by (try simp only [List.map_toArray, List.map_cons, List.map_nil]); first | done | rfl | (simp only [List.length_drop, List.length_take]; rfl)) ?_; (with_reducible refine (impl_within.calls (l0.length : Int) 1 64 true _ A3.out).mono ?_); rintro e w' ⟨rfl, ⟨nd, rfl⟩⟩; refine ⟨_, rfl, ?_⟩) | ((with_reducible refine gate_dst (N := 15) rfl ?_); refine Kd.R_lit (Kd.int .u8) _ 5 ?hg (N := 15) ?hd (xs := ([] : List Int)) (inner := []) (ok := fun _ => True) (okp := fun _ => True) ?hr ?hp (fun _ hk => hk) trivial (Below.refl _ _) (Nat.le_refl _) (by simp) ?_; (case hd => rfl); (case hg => rfl); (case hr => first | (go_simp; done) | (go_simp; rfl)); (case hp => exact (Reps.none _ _)); intro v220 w6 ho7 hb hg_ hnew_; clear hg_ hnew_; (first | rw [← Ny219.out] at ho7 | (simp only [Int.reduceToNat] at ho7; rw [← Ny219.out] at ho7)); have n0_ := Aside0.mk (Kd.R_lower ho7 (below_size bl)); have n1_ := Aside0.mk (blk_below (bx BK217.out) hb); have n2_ := bs HB hb; clear BK217; clear HB; have HO221 := n0_; have BK217 := n1_; have HB := n2_; clear n0_ n1_ n2_; clear hb ho7))
    go_loopg [6, 18] k (fun kq v6 v18 w' => ∃ (x6_1 : List Int) (x18_1 : Int), v18 = .int .i64 x18_1 ∧ Aside0 (impl_TileRow.l0 kq x6_1 l0 (l0.length : Int) x18_1 a1_0 a1_1 a1_2 a1_3 = some (r1, r2)) ∧ Aside0 (kq ≤ k) ∧ Aside0 (Kd.R (Kd.int .u8) 5 w' w.heap.size (fun _ => True) v6 x6_1) ∧ Aside0 (w'.heap[gb217]? = some (.cells #[.bool a1_0, .int .i64 a1_1, .bool a1_2, .bool a1_3] 133 (0, 0))) ∧ Aside0 (Below w.heap.size w w'))
    case atStart => exact ⟨(y219), (0), (by first | rfl | (simp; done) | (simp [*]; done)), H', ⟨Nat.le_refl _⟩, ⟨by (with_reducible repeat (first | apply Kd.R_alloc | apply Kd.R_drewN | apply Kd.R_drew)); exact HO221.out⟩, ⟨by (with_reducible repeat (first | refine blk_drewN ?_ _ | refine blk_drew ?_ | refine blk_alloc ?_ _)); exact BK217.out⟩, ⟨bl⟩⟩
    case round =>
      clear H'
      (try clear c1); (try clear p2); (try clear c4); (try clear c7)
      obtain ⟨x6_1, x18_1, rfl, HA, HK1, HO_6, BK217, HB⟩ := hrel
      cases gk with
      | zero => exact absurd HA.out (by simp [impl_TileRow.l0])
      | succ k1 =>
        have H := HA.out
        clear HA
        simp only [impl_TileRow.l0] at H
        by_cases c8 : x18_1 < (l0.length : Int)
        · rw [if_pos c8] at H
          have c8b0 : decide (x18_1 < (l0.length : Int)) = true := decide_eq_true c8
          clear c8
          by_cases c9 : 0 ≤ x18_1
          · rw [if_pos c9] at H
            have c9b0 : decide (0 ≤ x18_1) = true := decide_eq_true c9
            clear c9
            by_cases c10 : x18_1 < (l0.length : Int)
            · rw [if_pos c10] at H
              have c10b0 : decide (x18_1 < (l0.length : Int)) = true := decide_eq_true c10
              clear c10
              replace H := Option.bind_eq_some_iff.mp H
              obtain ⟨⟨t224, t225⟩, A110, H⟩ := H
              (try dsimp only at H)
              have A11 := Aside0.mk A110
              clear A110
              by_cases c12 : t225 = true
              · subst c12
                rw [if_pos rfl] at H
                by_cases c13 : x6_1.length + t224.size < 140737488355328
                · rw [if_pos c13] at H
                  have LMc13 := Aside0.mk c13
                  clear c13
                  obtain ⟨y226, hy226⟩ : ∃ y_ : List Int, y_ = (x6_1 ++ bytesOf t224) := ⟨_, rfl⟩
                  replace H : (impl_TileRow.l0 k1 y226 l0 (l0.length : Int) (wrap64 (x18_1 + 1)) a1_0 a1_1 a1_2 a1_3) = some (r1, r2) := by first | (rw [hy226]; with_reducible exact H) | (have H2_ := (Option.bind_some _ _).symm.trans H; rw [hy226]; with_reducible exact H2_) | (have H2_ := (Option.bind_some _ _).symm.trans H; with_reducible exact H2_) | with_reducible exact H | (rw [hy226]; exact H) | exact H
                  have Ny226 := Aside0.mk hy226
                  clear hy226
                  have H' := Aside0.mk H
                  clear H
                  have p222 : 0 ≤ (x18_1 : Int) := of_decide_eq_true (by first | (with_reducible assumption) | assumption)
                  have q222 : x18_1 < (l0.length : Int) := of_decide_eq_true (by first | (with_reducible assumption) | assumption)
                  obtain ⟨ad222, A222_4, c222_4, e222, hx222_0, hx222_1, hx222_2, hx222_3, hx222_4, hl222_4, hi222_4⟩ := at_T122 HR0.out x18_1 p222 q222
                  cases e222
                  try replace hx222_0 := (HB.out.cell (World.block_lt_of_cell? w _ hx222_0)).trans hx222_0
                  try replace hx222_1 := (HB.out.cell (World.block_lt_of_cell? w _ hx222_1)).trans hx222_1
                  try replace hx222_2 := (HB.out.cell (World.block_lt_of_cell? w _ hx222_2)).trans hx222_2
                  try replace hx222_3 := (HB.out.cell (World.block_lt_of_cell? w _ hx222_3)).trans hx222_3
                  try replace hx222_4 := (HB.out.cell (World.block_lt_of_cell? w _ hx222_4)).trans hx222_4
                  have HR222_4 := Aside0.mk hi222_4
                  have HC222_4 := Aside0.mk hl222_4
                  clear hi222_4 hl222_4
                  replace p222 := eq_true p222
                  replace q222 := eq_true q222
                  go_wp2_with (first | ((with_reducible refine gate_dst (N := 8) rfl ?_); refine box_event ?hg (N := 8) ?hd (cs := #[.int .i64 0, .int .i64 0, .int .i64 0, .int .i64 0, .slice none 0 0]) (t := 122) ?hr ?_; (case hd => rfl); (case hg => rfl); (case hr => first | (go_simp; done) | (go_simp; rfl)); intro gb223 hg w14 hbox hb; have n0_ := Aside0.mk (Kd.R_below (by (with_reducible repeat (first | apply Kd.R_alloc | apply Kd.R_drewN | apply Kd.R_drew)); exact HO_6.out) hb); have n1_ := Aside0.mk (blk_below (bx BK217.out) hb); have n2_ := bs HB hb; have n3_ := Aside0.mk (hbox); have n4_ := bz hg; have n5_ := bz hg; have n6_ := Aside0.mk ((by rw [hg]; exact Nat.ne_of_lt (blk_lt (bx BK217.out)) : gb217 ≠ gb223)); have n7_ := Aside0.mk ((by rw [hg]; exact Nat.ne_of_gt (blk_lt (bx BK217.out)) : gb223 ≠ gb217)); clear HO_6; clear BK217; clear HB; have HO_6 := n0_; have BK217 := n1_; have HB := n2_; have BK223 := n3_; have GW223 := n4_; have GE223 := n5_; have NB217_223 := n6_; have NB223_217 := n7_; clear n0_ n1_ n2_ n3_ n4_ n5_ n6_ n7_; clear hb hbox hg; have hnb15 := NB223_217.out; have hnc15 := NB217_223.out; have hcz16_0 : ∀ i, w14.cell? ⟨gb223, i, none⟩ = _ := blk_cell BK223.out; have hfz16_0 := blk_frozen BK223.out; have hcz17_0 : ∀ i, w14.cell? ⟨gb217, i, none⟩ = _ := blk_cell BK217.out; have hfz17_0 := blk_frozen BK217.out) | ((with_reducible refine gate_callee (f := 168) rfl ?_); refine goesL_ (some 25) rfl rfl Try.func168 (by kernel_rfl) rfl #[.agg #[.int .i64 ((rd_T122 l0 x18_1).f0), .int .i64 ((rd_T122 l0 x18_1).f1), .int .i64 ((rd_T122 l0 x18_1).f2), .int .i64 ((rd_T122 l0 x18_1).f3), .slice A222_4 ((rd_T122 l0 x18_1).f4).length c222_4], .agg #[.bool a1_0, .int .i64 a1_1, .bool a1_2, .bool a1_3]] rfl (by (try simp only [List.map_toArray, List.map_cons, List.map_nil]); first | done | rfl | (simp only [List.length_drop, List.length_take]; rfl)) ?_; (with_reducible refine (impl_SquareRow.calls k1 ((rd_T122 l0 x18_1).f0) ((rd_T122 l0 x18_1).f1) ((rd_T122 l0 x18_1).f2) ((rd_T122 l0 x18_1).f3) _ _ ((rd_T122 l0 x18_1).f4) a1_0 a1_1 a1_2 a1_3 t224 true _ ?side1 ?side2 A11.out).mono ?_); (case side1 => exact Kd.C_below HR222_4.out bl); (case side2 => exact HC222_4.out); rintro e w18 ⟨rfl, hb⟩; refine ⟨_, rfl, ?_⟩; have n0_ := Aside0.mk (Kd.R_below (by (with_reducible repeat (first | apply Kd.R_alloc | apply Kd.R_drewN | apply Kd.R_drew)); exact (Kd.R_mono (Kd.R_far (p := ⟨gb223, 4, none⟩) (Kd.R_far (p := ⟨gb223, 3, none⟩) (Kd.R_far (p := ⟨gb223, 2, none⟩) (Kd.R_far (p := ⟨gb223, 1, none⟩) (Kd.R_far (p := ⟨gb223, 0, none⟩) (Kd.R_types HO_6.out BK223.out (by decide)) (fun _ hk => hk.2) (.int .i64 ((rd_T122 l0 x18_1).f0))) (fun _ hk => hk.2) (.int .i64 ((rd_T122 l0 x18_1).f1))) (fun _ hk => hk.2) (.int .i64 ((rd_T122 l0 x18_1).f2))) (fun _ hk => hk.2) (.int .i64 ((rd_T122 l0 x18_1).f3))) (fun _ hk => hk.2) (.slice A222_4 ((rd_T122 l0 x18_1).f4).length c222_4)) (fun _ h_ => h_.1))) hb); have n1_ := Aside0.mk (blk_below (g := gb217) (o := .cells #[.bool a1_0, .int .i64 a1_1, .bool a1_2, .bool a1_3] 133 (0, 0)) (by (with_reducible repeat (first | refine blk_drewN ?_ _ | refine blk_drew ?_ | refine blk_alloc ?_ _)); refine blk_far ?_ NB217_223.out _; (with_reducible repeat (first | refine blk_drewN ?_ _ | refine blk_drew ?_ | refine blk_alloc ?_ _)); refine blk_far ?_ NB217_223.out _; (with_reducible repeat (first | refine blk_drewN ?_ _ | refine blk_drew ?_ | refine blk_alloc ?_ _)); refine blk_far ?_ NB217_223.out _; (with_reducible repeat (first | refine blk_drewN ?_ _ | refine blk_drew ?_ | refine blk_alloc ?_ _)); refine blk_far ?_ NB217_223.out _; (with_reducible repeat (first | refine blk_drewN ?_ _ | refine blk_drew ?_ | refine blk_alloc ?_ _)); refine blk_far ?_ NB217_223.out _; (with_reducible repeat (first | refine blk_drewN ?_ _ | refine blk_drew ?_ | refine blk_alloc ?_ _)); exact BK217.out) hb); have n2_ := Aside0.mk (blk_below (g := gb223) (o := .cells #[.int .i64 ((rd_T122 l0 x18_1).f0), .int .i64 ((rd_T122 l0 x18_1).f1), .int .i64 ((rd_T122 l0 x18_1).f2), .int .i64 ((rd_T122 l0 x18_1).f3), .slice A222_4 ((rd_T122 l0 x18_1).f4).length c222_4] 122 (0, 0)) (by (with_reducible repeat (first | refine blk_drewN ?_ _ | refine blk_drew ?_ | refine blk_alloc ?_ _)); refine blk_put (cs := #[.int .i64 ((rd_T122 l0 x18_1).f0), .int .i64 ((rd_T122 l0 x18_1).f1), .int .i64 ((rd_T122 l0 x18_1).f2), .int .i64 ((rd_T122 l0 x18_1).f3), .slice none 0 0]) ?_ 4 _ rfl; (with_reducible repeat (first | refine blk_drewN ?_ _ | refine blk_drew ?_ | refine blk_alloc ?_ _)); refine blk_put (cs := #[.int .i64 ((rd_T122 l0 x18_1).f0), .int .i64 ((rd_T122 l0 x18_1).f1), .int .i64 ((rd_T122 l0 x18_1).f2), .int .i64 0, .slice none 0 0]) ?_ 3 _ rfl; (with_reducible repeat (first | refine blk_drewN ?_ _ | refine blk_drew ?_ | refine blk_alloc ?_ _)); refine blk_put (cs := #[.int .i64 ((rd_T122 l0 x18_1).f0), .int .i64 ((rd_T122 l0 x18_1).f1), .int .i64 0, .int .i64 0, .slice none 0 0]) ?_ 2 _ rfl; (with_reducible repeat (first | refine blk_drewN ?_ _ | refine blk_drew ?_ | refine blk_alloc ?_ _)); refine blk_put (cs := #[.int .i64 ((rd_T122 l0 x18_1).f0), .int .i64 0, .int .i64 0, .int .i64 0, .slice none 0 0]) ?_ 1 _ rfl; (with_reducible repeat (first | refine blk_drewN ?_ _ | refine blk_drew ?_ | refine blk_alloc ?_ _)); refine blk_put (cs := #[.int .i64 0, .int .i64 0, .int .i64 0, .int .i64 0, .slice none 0 0]) ?_ 0 _ rfl; (with_reducible repeat (first | refine blk_drewN ?_ _ | refine blk_drew ?_ | refine blk_alloc ?_ _)); exact BK223.out) hb); have n3_ := bs HB hb; clear HO_6; clear BK217; clear BK223; clear HB; have HO_6 := n0_; have BK217 := n1_; have BK223 := n2_; have HB := n3_; clear n0_ n1_ n2_ n3_; (try clear hb); (try clear hb2); (try clear hk); (try clear hi)) | (at_builtin; refine print_append_str (w0 := w) w.heap.size rfl (.tmp 30) _ 22 9 5 rfl Try.underlying22 Try.underlying9 info5 u6 x6_1 t224 rfl rfl ?aO ?aB ?aS ?aL ?_; (case aB => exact bl); (case aO => exact (Kd.own_of_R (by (with_reducible repeat (first | apply Kd.R_alloc | apply Kd.R_drewN | apply Kd.R_drew)); exact HO_6.out))); (case aS => exact (below_size bl)); (case aL => have := LMc13.out; omega); intro v227 w19 ho0 hb hg; have ho := Kd.R_of_own (h1 := fun _ => rfl) (ok := fun _ => True) ho0 (fun _ _ => trivial); clear ho0; have hat := True.intro; rw [← Ny226.out] at ho; change Kd.R (Kd.int .u8) 5 w19 w.heap.size (fun _ => True) v227 y226 at ho; have n0_ := Aside0.mk (blk_grown (bx BK217.out) hg (Kd.R_ne HO_6.out BK217.out (by decide))); have n1_ := Aside0.mk (blk_grown (bx BK223.out) hg (Kd.R_ne HO_6.out BK223.out (by decide))); have n2_ := Aside0.mk (hb); have n3_ := Aside0.mk (ho); clear BK217; clear BK223; clear HB; clear HO_6; have BK217 := n0_; have BK223 := n1_; have HB := n2_; have HO228 := n3_; clear n0_ n1_ n2_ n3_; clear ho hb hg hat))
                  go_roundg k1
                  case measure => have := HK1.out; omega
                  case rel => exact ⟨(y226), (wrap64 (x18_1 + 1)), (by first | rfl | (simp; done) | (simp [*]; done)), H', ⟨by have := HK1.out; omega⟩, ⟨by (with_reducible repeat (first | apply Kd.R_alloc | apply Kd.R_drewN | apply Kd.R_drew)); exact HO228.out⟩, ⟨by (with_reducible repeat (first | refine blk_drewN ?_ _ | refine blk_drew ?_ | refine blk_alloc ?_ _)); exact BK217.out⟩, ⟨bl⟩⟩
                · rw [if_neg c13] at H
                  exact absurd H (by simp)
              · replace c12 := Bool.eq_false_iff.mpr c12
                subst c12
                have H1 : (some ((⟨#[]⟩ : ByteArray), false)) = some (r1, r2) := by rw [if_neg (show ¬ (false = true) by decide)] at H; exact H
                clear H
                have H := H1
                clear H1
                simp only [Option.some.injEq, Prod.mk.injEq] at H
                obtain ⟨rfl, rfl⟩ := H
                have p222 : 0 ≤ (x18_1 : Int) := of_decide_eq_true (by first | (with_reducible assumption) | assumption)
                have q222 : x18_1 < (l0.length : Int) := of_decide_eq_true (by first | (with_reducible assumption) | assumption)
                obtain ⟨ad222, A222_4, c222_4, e222, hx222_0, hx222_1, hx222_2, hx222_3, hx222_4, hl222_4, hi222_4⟩ := at_T122 HR0.out x18_1 p222 q222
                cases e222
                try replace hx222_0 := (HB.out.cell (World.block_lt_of_cell? w _ hx222_0)).trans hx222_0
                try replace hx222_1 := (HB.out.cell (World.block_lt_of_cell? w _ hx222_1)).trans hx222_1
                try replace hx222_2 := (HB.out.cell (World.block_lt_of_cell? w _ hx222_2)).trans hx222_2
                try replace hx222_3 := (HB.out.cell (World.block_lt_of_cell? w _ hx222_3)).trans hx222_3
                try replace hx222_4 := (HB.out.cell (World.block_lt_of_cell? w _ hx222_4)).trans hx222_4
                have HR222_4 := Aside0.mk hi222_4
                have HC222_4 := Aside0.mk hl222_4
                clear hi222_4 hl222_4
                replace p222 := eq_true p222
                replace q222 := eq_true q222
                go_wp2_with (first | ((with_reducible refine gate_dst (N := 8) rfl ?_); refine box_event ?hg (N := 8) ?hd (cs := #[.int .i64 0, .int .i64 0, .int .i64 0, .int .i64 0, .slice none 0 0]) (t := 122) ?hr ?_; (case hd => rfl); (case hg => rfl); (case hr => first | (go_simp; done) | (go_simp; rfl)); intro gb223 hg w20 hbox hb; have n0_ := Aside0.mk (Kd.R_below (by (with_reducible repeat (first | apply Kd.R_alloc | apply Kd.R_drewN | apply Kd.R_drew)); exact HO_6.out) hb); have n1_ := Aside0.mk (blk_below (bx BK217.out) hb); have n2_ := bs HB hb; have n3_ := Aside0.mk (hbox); have n4_ := bz hg; have n5_ := bz hg; have n6_ := Aside0.mk ((by rw [hg]; exact Nat.ne_of_lt (blk_lt (bx BK217.out)) : gb217 ≠ gb223)); have n7_ := Aside0.mk ((by rw [hg]; exact Nat.ne_of_gt (blk_lt (bx BK217.out)) : gb223 ≠ gb217)); clear HO_6; clear BK217; clear HB; have HO_6 := n0_; have BK217 := n1_; have HB := n2_; have BK223 := n3_; have GW223 := n4_; have GE223 := n5_; have NB217_223 := n6_; have NB223_217 := n7_; clear n0_ n1_ n2_ n3_ n4_ n5_ n6_ n7_; clear hb hbox hg; have hnb21 := NB223_217.out; have hnc21 := NB217_223.out; have hcz22_0 : ∀ i, w20.cell? ⟨gb223, i, none⟩ = _ := blk_cell BK223.out; have hfz22_0 := blk_frozen BK223.out; have hcz23_0 : ∀ i, w20.cell? ⟨gb217, i, none⟩ = _ := blk_cell BK217.out; have hfz23_0 := blk_frozen BK217.out) | ((with_reducible refine gate_callee (f := 168) rfl ?_); refine goesL_ (some 25) rfl rfl Try.func168 (by kernel_rfl) rfl #[.agg #[.int .i64 ((rd_T122 l0 x18_1).f0), .int .i64 ((rd_T122 l0 x18_1).f1), .int .i64 ((rd_T122 l0 x18_1).f2), .int .i64 ((rd_T122 l0 x18_1).f3), .slice A222_4 ((rd_T122 l0 x18_1).f4).length c222_4], .agg #[.bool a1_0, .int .i64 a1_1, .bool a1_2, .bool a1_3]] rfl (by (try simp only [List.map_toArray, List.map_cons, List.map_nil]); first | done | rfl | (simp only [List.length_drop, List.length_take]; rfl)) ?_; (with_reducible refine (impl_SquareRow.calls k1 ((rd_T122 l0 x18_1).f0) ((rd_T122 l0 x18_1).f1) ((rd_T122 l0 x18_1).f2) ((rd_T122 l0 x18_1).f3) _ _ ((rd_T122 l0 x18_1).f4) a1_0 a1_1 a1_2 a1_3 t224 false _ ?side1 ?side2 A11.out).mono ?_); (case side1 => exact Kd.C_below HR222_4.out bl); (case side2 => exact HC222_4.out); rintro e w24 ⟨rfl, hb⟩; refine ⟨_, rfl, ?_⟩; have n0_ := Aside0.mk (Kd.R_below (by (with_reducible repeat (first | apply Kd.R_alloc | apply Kd.R_drewN | apply Kd.R_drew)); exact (Kd.R_mono (Kd.R_far (p := ⟨gb223, 4, none⟩) (Kd.R_far (p := ⟨gb223, 3, none⟩) (Kd.R_far (p := ⟨gb223, 2, none⟩) (Kd.R_far (p := ⟨gb223, 1, none⟩) (Kd.R_far (p := ⟨gb223, 0, none⟩) (Kd.R_types HO_6.out BK223.out (by decide)) (fun _ hk => hk.2) (.int .i64 ((rd_T122 l0 x18_1).f0))) (fun _ hk => hk.2) (.int .i64 ((rd_T122 l0 x18_1).f1))) (fun _ hk => hk.2) (.int .i64 ((rd_T122 l0 x18_1).f2))) (fun _ hk => hk.2) (.int .i64 ((rd_T122 l0 x18_1).f3))) (fun _ hk => hk.2) (.slice A222_4 ((rd_T122 l0 x18_1).f4).length c222_4)) (fun _ h_ => h_.1))) hb); have n1_ := Aside0.mk (blk_below (g := gb217) (o := .cells #[.bool a1_0, .int .i64 a1_1, .bool a1_2, .bool a1_3] 133 (0, 0)) (by (with_reducible repeat (first | refine blk_drewN ?_ _ | refine blk_drew ?_ | refine blk_alloc ?_ _)); refine blk_far ?_ NB217_223.out _; (with_reducible repeat (first | refine blk_drewN ?_ _ | refine blk_drew ?_ | refine blk_alloc ?_ _)); refine blk_far ?_ NB217_223.out _; (with_reducible repeat (first | refine blk_drewN ?_ _ | refine blk_drew ?_ | refine blk_alloc ?_ _)); refine blk_far ?_ NB217_223.out _; (with_reducible repeat (first | refine blk_drewN ?_ _ | refine blk_drew ?_ | refine blk_alloc ?_ _)); refine blk_far ?_ NB217_223.out _; (with_reducible repeat (first | refine blk_drewN ?_ _ | refine blk_drew ?_ | refine blk_alloc ?_ _)); refine blk_far ?_ NB217_223.out _; (with_reducible repeat (first | refine blk_drewN ?_ _ | refine blk_drew ?_ | refine blk_alloc ?_ _)); exact BK217.out) hb); have n2_ := Aside0.mk (blk_below (g := gb223) (o := .cells #[.int .i64 ((rd_T122 l0 x18_1).f0), .int .i64 ((rd_T122 l0 x18_1).f1), .int .i64 ((rd_T122 l0 x18_1).f2), .int .i64 ((rd_T122 l0 x18_1).f3), .slice A222_4 ((rd_T122 l0 x18_1).f4).length c222_4] 122 (0, 0)) (by (with_reducible repeat (first | refine blk_drewN ?_ _ | refine blk_drew ?_ | refine blk_alloc ?_ _)); refine blk_put (cs := #[.int .i64 ((rd_T122 l0 x18_1).f0), .int .i64 ((rd_T122 l0 x18_1).f1), .int .i64 ((rd_T122 l0 x18_1).f2), .int .i64 ((rd_T122 l0 x18_1).f3), .slice none 0 0]) ?_ 4 _ rfl; (with_reducible repeat (first | refine blk_drewN ?_ _ | refine blk_drew ?_ | refine blk_alloc ?_ _)); refine blk_put (cs := #[.int .i64 ((rd_T122 l0 x18_1).f0), .int .i64 ((rd_T122 l0 x18_1).f1), .int .i64 ((rd_T122 l0 x18_1).f2), .int .i64 0, .slice none 0 0]) ?_ 3 _ rfl; (with_reducible repeat (first | refine blk_drewN ?_ _ | refine blk_drew ?_ | refine blk_alloc ?_ _)); refine blk_put (cs := #[.int .i64 ((rd_T122 l0 x18_1).f0), .int .i64 ((rd_T122 l0 x18_1).f1), .int .i64 0, .int .i64 0, .slice none 0 0]) ?_ 2 _ rfl; (with_reducible repeat (first | refine blk_drewN ?_ _ | refine blk_drew ?_ | refine blk_alloc ?_ _)); refine blk_put (cs := #[.int .i64 ((rd_T122 l0 x18_1).f0), .int .i64 0, .int .i64 0, .int .i64 0, .slice none 0 0]) ?_ 1 _ rfl; (with_reducible repeat (first | refine blk_drewN ?_ _ | refine blk_drew ?_ | refine blk_alloc ?_ _)); refine blk_put (cs := #[.int .i64 0, .int .i64 0, .int .i64 0, .int .i64 0, .slice none 0 0]) ?_ 0 _ rfl; (with_reducible repeat (first | refine blk_drewN ?_ _ | refine blk_drew ?_ | refine blk_alloc ?_ _)); exact BK223.out) hb); have n3_ := bs HB hb; clear HO_6; clear BK217; clear BK223; clear HB; have HO_6 := n0_; have BK217 := n1_; have BK223 := n2_; have HB := n3_; clear n0_ n1_ n2_ n3_; (try clear hb); (try clear hb2); (try clear hk); (try clear hi)))
                go_ret2
                exact ⟨rr, bl⟩
            · rw [if_neg c10] at H
              exact absurd H (by simp)
          · rw [if_neg c9] at H
            exact absurd H (by simp)
        · rw [if_neg c8] at H
          have c8b0 : decide (x18_1 < (l0.length : Int)) = false := decide_eq_false c8
          clear c8
          simp only [Option.some.injEq, Prod.mk.injEq] at H
          obtain ⟨rfl, rfl⟩ := H
          have hcv25 := own_string (P := Try.prog) Try.underlying22 Try.underlying5 Try.underlying9 (Kd.own_of_R HO_6.out)
          go_wp2
          go_ret2
          exact ⟨rr, bl⟩
  · replace c4 := Bool.eq_false_iff.mpr c4
    subst c4
    have H1 : (some ((⟨#[]⟩ : ByteArray), false)) = some (r1, r2) := by rw [if_neg (show ¬ (false = true) by decide)] at H; exact H
    clear H
    have H := H1
    clear H1
    simp only [Option.some.injEq, Prod.mk.injEq] at H
    obtain ⟨rfl, rfl⟩ := H
    go_enter Try.func139, Try.ntmps139
    go_wp2_with (first | ((with_reducible refine gate_dst (N := 3) rfl ?_); refine box_event ?hg (N := 3) ?hd (cs := #[.bool a1_0, .int .i64 a1_1, .bool a1_2, .bool a1_3]) (t := 133) ?hr ?_; (case hd => rfl); (case hg => rfl); (case hr => first | (go_simp; done) | (go_simp; rfl)); intro gb217 hg w26 hbox hb; have n0_ := bs HB hb; have n1_ := Aside0.mk (hbox); have n2_ := bz hg; have n3_ := bz hg; clear HB; have HB := n0_; have BK217 := n1_; have GW217 := n2_; have GE217 := n3_; clear n0_ n1_ n2_ n3_; clear hb hbox hg) | ((with_reducible refine gate_callee (f := 78) rfl ?_); refine goesL_ (some 13) rfl rfl Try.func78 (by kernel_rfl) rfl #[.int .i64 (l0.length : Int), .int .i64 1, .int .i64 64] rfl (by (try simp only [List.map_toArray, List.map_cons, List.map_nil]); first | done | rfl | (simp only [List.length_drop, List.length_take]; rfl)) ?_; (with_reducible refine (impl_within.calls (l0.length : Int) 1 64 false _ A3.out).mono ?_); rintro e w' ⟨rfl, ⟨nd, rfl⟩⟩; refine ⟨_, rfl, ?_⟩))
    go_ret2
    exact ⟨rr, bl⟩

/-! ### impl_alike: function 87 -/
mutual
def impl_alike.j0 : Nat → Int → Bool → Bool → Int → Bool → Bool → Bool → Int → Int → Int → Int → List Int → Option (Bool × Int × ByteArray × Bool)
  | 0, _, _, _, _, _, _, _, _, _, _, _, _ => none
  | k + 1, x0, x2, x19, x230000, x230001, x230002, x230003, x231000, x231001, x231002, x231003, x231004 => if x19 = true then (some (false, 0, (⟨#[]⟩ : ByteArray), false)) else (impl_alike.l0 k (([] : List (S122))) x0 0 x230000 x230001 x230002 x230003 x231000 x231001 x231002 x231003 x231004 x2 x230000 (⟨#[]⟩ : ByteArray))
def impl_alike.l0 : Nat → List (S122) → Int → Int → Int → Bool → Bool → Bool → Int → Int → Int → Int → List Int → Bool → Int → ByteArray → Option (Bool × Int × ByteArray × Bool)
  | 0, _, _, _, _, _, _, _, _, _, _, _, _, _, _, _ => none
  | k + 1, x11, x26, x27, x230000, x230001, x230002, x230003, x231000, x231001, x231002, x231003, x231004, x235000, x235001, x235002 => if x27 < x26 then (if x11.length < 2513169434916 then (impl_alike.l0 k (x11 ++ [(⟨x231000, x231001, x231002, x231003, x231004⟩ : S122)]) x26 (wrap64 (x27 + 1)) x230000 x230001 x230002 x230003 x231000 x231001 x231002 x231003 x231004 x235000 x235001 x235002) else (none)) else ((impl_CondFor.f x230000 x230001 x230002 x230003 x235000 x235001 x235002).bind fun bt241 => ((impl_TileRow.f k x11 bt241.1 bt241.2.1 bt241.2.2.1 bt241.2.2.2).bind fun bt245 => (some (x235000, x235001, bt245.1, true))))
end
def impl_alike.f (k : Nat) (a0 : Int) (a1_0 : Int) (a1_1 : Bool) (a1_2 : Bool) (a1_3 : Bool) (a2 : Bool) (a3_0 : Int) (a3_1 : Int) (a3_2 : Int) (a3_3 : Int) (l3_4 : List Int) : Option (Bool × Int × ByteArray × Bool) := (impl_ParOk.f a1_0 a1_1 a1_2 a1_3).bind fun t232 => (if t232 = true then ((impl_within.f a0 1 64).bind fun t233 => (impl_alike.j0 k a0 a2 (!t233) a1_0 a1_1 a1_2 a1_3 a3_0 a3_1 a3_2 a3_3 l3_4)) else (impl_alike.j0 k a0 a2 true a1_0 a1_1 a1_2 a1_3 a3_0 a3_1 a3_2 a3_3 l3_4))
theorem impl_alike.mono_l : ∀ k, (∀ y0 y1 y2 y3 y4 y5 y6 y7 y8 y9 y10 y11, LeO (impl_alike.j0 k y0 y1 y2 y3 y4 y5 y6 y7 y8 y9 y10 y11) (impl_alike.j0 (k + 1) y0 y1 y2 y3 y4 y5 y6 y7 y8 y9 y10 y11)) ∧ (∀ y0 y1 y2 y3 y4 y5 y6 y7 y8 y9 y10 y11 y12 y13 y14, LeO (impl_alike.l0 k y0 y1 y2 y3 y4 y5 y6 y7 y8 y9 y10 y11 y12 y13 y14) (impl_alike.l0 (k + 1) y0 y1 y2 y3 y4 y5 y6 y7 y8 y9 y10 y11 y12 y13 y14))
  | 0 => ⟨fun _ _ _ _ _ _ _ _ _ _ _ _ r h => by simp [impl_alike.j0] at h, fun _ _ _ _ _ _ _ _ _ _ _ _ _ _ _ r h => by simp [impl_alike.l0] at h⟩
  | k + 1 => by
    obtain ⟨ih0, ih1⟩ := impl_alike.mono_l k
    refine ⟨?_, ?_⟩
    · intro y0 y1 y2 y3 y4 y5 y6 y7 y8 y9 y10 y11
      unfold impl_alike.j0
      repeat' first
      | (with_reducible exact ih0 _ _ _ _ _ _ _ _ _ _ _ _)
      | (with_reducible exact ih1 _ _ _ _ _ _ _ _ _ _ _ _ _ _ _)
      | (with_reducible exact impl_TileRow.mono _ _ _ _ _ _)
      | (with_reducible exact LeO.refl _)
      | (with_reducible exact LeO.none _)
      | (with_reducible refine LeO.ite ?_ ?_)
      | (with_reducible refine LeO.bind ?_ (fun _ => ?_))
      | exact ih0 _ _ _ _ _ _ _ _ _ _ _ _
      | exact ih1 _ _ _ _ _ _ _ _ _ _ _ _ _ _ _
      | exact impl_TileRow.mono _ _ _ _ _ _
      | exact LeO.none _
      | refine LeO.ite ?_ ?_
      | refine LeO.bind ?_ (fun _ => ?_)
    · intro y0 y1 y2 y3 y4 y5 y6 y7 y8 y9 y10 y11 y12 y13 y14
      unfold impl_alike.l0
      repeat' first
      | (with_reducible exact ih0 _ _ _ _ _ _ _ _ _ _ _ _)
      | (with_reducible exact ih1 _ _ _ _ _ _ _ _ _ _ _ _ _ _ _)
      | (with_reducible exact impl_TileRow.mono _ _ _ _ _ _)
      | (with_reducible exact LeO.refl _)
      | (with_reducible exact LeO.none _)
      | (with_reducible refine LeO.ite ?_ ?_)
      | (with_reducible refine LeO.bind ?_ (fun _ => ?_))
      | exact ih0 _ _ _ _ _ _ _ _ _ _ _ _
      | exact ih1 _ _ _ _ _ _ _ _ _ _ _ _ _ _ _
      | exact impl_TileRow.mono _ _ _ _ _ _
      | exact LeO.none _
      | refine LeO.ite ?_ ?_
      | refine LeO.bind ?_ (fun _ => ?_)
theorem impl_alike.mono : ∀ a0 a1 a2 a3 a4 a5 a6 a7 a8 a9 a10 k, LeO (impl_alike.f k a0 a1 a2 a3 a4 a5 a6 a7 a8 a9 a10) (impl_alike.f (k + 1) a0 a1 a2 a3 a4 a5 a6 a7 a8 a9 a10) := by
  intro a0 a1 a2 a3 a4 a5 a6 a7 a8 a9 a10 k
  obtain ⟨ih0, ih1⟩ := impl_alike.mono_l k
  unfold impl_alike.f
  repeat' first
      | (with_reducible exact ih0 _ _ _ _ _ _ _ _ _ _ _ _)
      | (with_reducible exact ih1 _ _ _ _ _ _ _ _ _ _ _ _ _ _ _)
      | (with_reducible exact impl_TileRow.mono _ _ _ _ _ _)
      | (with_reducible exact LeO.refl _)
      | (with_reducible exact LeO.none _)
      | (with_reducible refine LeO.ite ?_ ?_)
      | (with_reducible refine LeO.bind ?_ (fun _ => ?_))
      | exact ih0 _ _ _ _ _ _ _ _ _ _ _ _
      | exact ih1 _ _ _ _ _ _ _ _ _ _ _ _ _ _ _
      | exact impl_TileRow.mono _ _ _ _ _ _
      | exact LeO.none _
      | refine LeO.ite ?_ ?_
      | refine LeO.bind ?_ (fun _ => ?_)
set_option maxHeartbeats 8000000 in
set_option maxRecDepth 100000 in
theorem impl_alike.calls (k : Nat) (a0 : Int) (a1_0 : Int) (a1_1 : Bool) (a1_2 : Bool) (a1_3 : Bool) (a2 : Bool) (a3_0 : Int) (a3_1 : Int) (a3_2 : Int) (a3_3 : Int) (P3_4_ : Nat → Prop) (A3_4 : Option Addr) (c3_4 : Nat) (l3_4 : List Int) (r1 : Bool) (r2 : Int) (r3 : ByteArray) (r4 : Bool) (w : World) (hs3_4 : Kd.V (Kd.int .i64) 3 w w.heap.size (fun k_ => P3_4_ k_) (.slice A3_4 l3_4.length c3_4) l3_4) (h : impl_alike.f k a0 a1_0 a1_1 a1_2 a1_3 a2 a3_0 a3_1 a3_2 a3_3 l3_4 = some (r1, r2, r3, r4)) :
    Calls Try.prog 87 #[.int .i64 a0, .agg #[.int .i64 a1_0, .bool a1_1, .bool a1_2, .bool a1_3], .bool a2, .agg #[.int .i64 a3_0, .int .i64 a3_1, .int .i64 a3_2, .int .i64 a3_3, .slice A3_4 l3_4.length c3_4]] w fun e w' => e = .returned (.tuple #[.agg #[.bool r1, .int .i64 r2, .string r3], .bool r4]) ∧ Below w.heap.size w w' := by
  have hu37 := Try.underlying37
  have hu122 := Try.underlying122
  have hu48 := Try.underlying48
  have HO3_4 := Aside0.mk (show Kd.V (Kd.int .i64) 3 w w.heap.size (fun k_ => (P3_4_ k_ ∨ w.heap.size ≤ k_)) (.slice A3_4 l3_4.length c3_4) l3_4 from Kd.V_mono hs3_4 (fun k_ hk => .inl hk))
  have HB := Aside0.mk (Below.refl w.heap.size w)
  have H : ((impl_ParOk.f a1_0 a1_1 a1_2 a1_3).bind fun t232 => (if t232 = true then ((impl_within.f a0 1 64).bind fun t233 => (impl_alike.j0 k a0 a2 (!t233) a1_0 a1_1 a1_2 a1_3 a3_0 a3_1 a3_2 a3_3 l3_4)) else (impl_alike.j0 k a0 a2 true a1_0 a1_1 a1_2 a1_3 a3_0 a3_1 a3_2 a3_3 l3_4))) = some (r1, r2, r3, r4) := h
  clear h
  have HC5 := Aside0.mk H
  clear H
  go_enter Try.func87, Try.ntmps87
  go_upto_region 1 with (first | ((with_reducible refine gate_dst (N := 5) rfl ?_); refine box_event ?hg (N := 5) ?hd (cs := #[.int .i64 a1_0, .bool a1_1, .bool a1_2, .bool a1_3]) (t := 37) ?hr ?_; (case hd => rfl); (case hg => rfl); (case hr => first | (go_simp; done) | (go_simp; rfl)); intro gb229 hg w6 hbox hb; have n0_ := Aside0.mk (Kd.V_below (Kd.V_elderB (by (with_reducible repeat (first | apply Kd.V_alloc | apply Kd.V_drewN | apply Kd.V_drew)); exact HO3_4.out) gb229 (Nat.le_of_eq hg.symm)) hb); have n1_ := bs HB hb; have n2_ := Aside0.mk (hbox); have n3_ := bz hg; have n4_ := bz hg; clear HO3_4; clear HB; have HO3_4 := n0_; have HB := n1_; have BK229 := n2_; have GW229 := n3_; have GE229 := n4_; clear n0_ n1_ n2_ n3_ n4_; clear hb hbox hg) | ((with_reducible refine gate_dst (N := 7) rfl ?_); refine box_event ?hg (N := 7) ?hd (cs := #[.int .i64 a3_0, .int .i64 a3_1, .int .i64 a3_2, .int .i64 a3_3, .slice A3_4 l3_4.length c3_4]) (t := 122) ?hr ?_; (case hd => rfl); (case hg => rfl); (case hr => first | (go_simp; done) | (go_simp; rfl)); intro gb230 hg w7 hbox hb; have n0_ := Aside0.mk (Kd.V_below (Kd.V_elderB (by (with_reducible repeat (first | apply Kd.V_alloc | apply Kd.V_drewN | apply Kd.V_drew)); exact HO3_4.out) gb230 (Nat.le_of_eq hg.symm)) hb); have n1_ := Aside0.mk (blk_below (bx BK229.out) hb); have n2_ := bs HB hb; have n3_ := Aside0.mk (hbox); have n4_ := bz hg; have n5_ := bz hg; have n6_ := Aside0.mk ((by rw [hg]; exact Nat.ne_of_lt (blk_lt (bx BK229.out)) : gb229 ≠ gb230)); have n7_ := Aside0.mk ((by rw [hg]; exact Nat.ne_of_gt (blk_lt (bx BK229.out)) : gb230 ≠ gb229)); clear HO3_4; clear BK229; clear HB; have HO3_4 := n0_; have BK229 := n1_; have HB := n2_; have BK230 := n3_; have GW230 := n4_; have GE230 := n5_; have NB229_230 := n6_; have NB230_229 := n7_; clear n0_ n1_ n2_ n3_ n4_ n5_ n6_ n7_; clear hb hbox hg) | ((with_reducible refine gate_dst (N := 8) rfl ?_); refine box_event ?hg (N := 8) ?hd (cs := #[.bool false, .int .i64 0, .string (⟨#[]⟩ : ByteArray)]) (t := 48) ?hr ?_; (case hd => rfl); (case hg => rfl); (case hr => first | (go_simp; done) | (go_simp; rfl)); intro gb231 hg w8 hbox hb; have n0_ := Aside0.mk (Kd.V_below (Kd.V_elderB (by (with_reducible repeat (first | apply Kd.V_alloc | apply Kd.V_drewN | apply Kd.V_drew)); exact HO3_4.out) gb231 (Nat.le_of_eq hg.symm)) hb); have n1_ := Aside0.mk (blk_below (bx BK229.out) hb); have n2_ := Aside0.mk (blk_below (bx BK230.out) hb); have n3_ := bs HB hb; have n4_ := Aside0.mk (hbox); have n5_ := bz hg; have n6_ := bz hg; have n7_ := Aside0.mk ((by rw [hg]; exact Nat.ne_of_lt (blk_lt (bx BK229.out)) : gb229 ≠ gb231)); have n8_ := Aside0.mk ((by rw [hg]; exact Nat.ne_of_gt (blk_lt (bx BK229.out)) : gb231 ≠ gb229)); have n9_ := Aside0.mk ((by rw [hg]; exact Nat.ne_of_lt (blk_lt (bx BK230.out)) : gb230 ≠ gb231)); have n10_ := Aside0.mk ((by rw [hg]; exact Nat.ne_of_gt (blk_lt (bx BK230.out)) : gb231 ≠ gb230)); clear HO3_4; clear BK229; clear BK230; clear HB; have HO3_4 := n0_; have BK229 := n1_; have BK230 := n2_; have HB := n3_; have BK231 := n4_; have GW231 := n5_; have GE231 := n6_; have NB229_231 := n7_; have NB231_229 := n8_; have NB230_231 := n9_; have NB231_230 := n10_; clear n0_ n1_ n2_ n3_ n4_ n5_ n6_ n7_ n8_ n9_ n10_; clear hb hbox hg))
  (try simp only [Act.put, List.setIfInBounds_toArray, List.set_cons_zero, List.set_cons_succ])
  go_cut [19] (fun v19 wc => ∃ (kq : Nat) (x19_4 : Bool), v19 = .bool x19_4 ∧ Aside0 (impl_alike.j0 kq a0 a2 x19_4 a1_0 a1_1 a1_2 a1_3 a3_0 a3_1 a3_2 a3_3 l3_4 = some (r1, r2, r3, r4)) ∧ Aside0 (kq ≤ k) ∧ Aside0 (Kd.V (Kd.int .i64) 3 wc w.heap.size (fun k_ => (P3_4_ k_ ∨ w.heap.size ≤ k_) ∧ k_ ≠ gb229 ∧ k_ ≠ gb230 ∧ k_ ≠ gb231) (.slice A3_4 l3_4.length c3_4) l3_4) ∧ Aside0 (wc.heap[gb229]? = some (.cells #[.int .i64 a1_0, .bool a1_1, .bool a1_2, .bool a1_3] 37 (0, 0))) ∧ Aside0 (wc.heap[gb230]? = some (.cells #[.int .i64 a3_0, .int .i64 a3_1, .int .i64 a3_2, .int .i64 a3_3, (.slice A3_4 l3_4.length c3_4)] 122 (0, 0))) ∧ Aside0 (wc.heap[gb231]? = some (.cells #[.bool false, .int .i64 0, .string (⟨#[]⟩ : ByteArray)] 48 (0, 0))) ∧ Aside0 (Below w.heap.size w wc))
  case first =>
    have H := HC5.out
    clear HC5
    replace H := Option.bind_eq_some_iff.mp H
    obtain ⟨t232, A90, H⟩ := H
    (try dsimp only at H)
    have A9 := Aside0.mk A90
    clear A90
    by_cases c10 : t232 = true
    · subst c10
      rw [if_pos rfl] at H
      replace H := Option.bind_eq_some_iff.mp H
      obtain ⟨t233, A110, H⟩ := H
      (try dsimp only at H)
      have A11 := Aside0.mk A110
      clear A110
      have H' := Aside0.mk H
      clear H
      have hnb12 := NB229_230.out
      have hnc12 := NB230_229.out
      have hnb13 := NB229_231.out
      have hnc13 := NB231_229.out
      have hcz14_0 : ∀ i, w8.cell? ⟨gb229, i, none⟩ = _ := blk_cell BK229.out
      have hcz14_1 : w8.cell? ⟨gb229, 1, none⟩ = some (.bool a1_1) := (blk_cell BK229.out 1).trans rfl
      have hcz14_2 : w8.cell? ⟨gb229, 2, none⟩ = some (.bool a1_2) := (blk_cell BK229.out 2).trans rfl
      have hcz14_3 : w8.cell? ⟨gb229, 3, none⟩ = some (.bool a1_3) := (blk_cell BK229.out 3).trans rfl
      have hfz14_0 := blk_frozen BK229.out
      have hfz14_1 := blk_frozen BK229.out 1
      have hfz14_2 := blk_frozen BK229.out 2
      have hfz14_3 := blk_frozen BK229.out 3
      go_wp2_with (first | ((with_reducible refine gate_callee (f := 119) rfl ?_); refine goesL_ (some 13) rfl rfl Try.func119 (by kernel_rfl) rfl #[.agg #[.int .i64 a1_0, .bool a1_1, .bool a1_2, .bool a1_3]] rfl (by (try simp only [List.map_toArray, List.map_cons, List.map_nil]); first | done | rfl | (simp only [List.length_drop, List.length_take]; rfl)) ?_; (with_reducible refine (impl_ParOk.calls a1_0 a1_1 a1_2 a1_3 true _ A9.out).mono ?_); rintro e w15 ⟨rfl, hb⟩; refine ⟨_, rfl, ?_⟩; have n0_ := Aside0.mk (Kd.V_below (by (with_reducible repeat (first | apply Kd.V_alloc | apply Kd.V_drewN | apply Kd.V_drew)); exact HO3_4.out) hb); have n1_ := Aside0.mk (blk_below (bx BK229.out) hb); have n2_ := Aside0.mk (blk_below (bx BK230.out) hb); have n3_ := Aside0.mk (blk_below (bx BK231.out) hb); have n4_ := bs HB hb; clear HO3_4; clear BK229; clear BK230; clear BK231; clear HB; have HO3_4 := n0_; have BK229 := n1_; have BK230 := n2_; have BK231 := n3_; have HB := n4_; clear n0_ n1_ n2_ n3_ n4_; (try clear hb); (try clear hb2); (try clear hk); (try clear hi)) | (go_at_call 78; (with_reducible refine (impl_within.calls a0 1 64 t233 _ A11.out).mono ?_); rintro e w' ⟨rfl, ⟨nd, rfl⟩⟩))
      go_meet
      case rel => exact ⟨_, (!t233), (by first | rfl | (simp; done) | (simp [*]; done)), H', ⟨by first | omega | exact Nat.le_refl _⟩, ⟨by (with_reducible repeat (first | apply Kd.V_alloc | apply Kd.V_drewN | apply Kd.V_drew)); exact Kd.V_mono HO3_4.out (fun _ hk => ⟨hk.1.1.1, ⟨hk.1.1.2, ⟨hk.1.2, hk.2⟩⟩⟩)⟩, ⟨by (with_reducible repeat (first | refine blk_drewN ?_ _ | refine blk_drew ?_ | refine blk_alloc ?_ _)); exact BK229.out⟩, ⟨by (with_reducible repeat (first | refine blk_drewN ?_ _ | refine blk_drew ?_ | refine blk_alloc ?_ _)); exact BK230.out⟩, ⟨by (with_reducible repeat (first | refine blk_drewN ?_ _ | refine blk_drew ?_ | refine blk_alloc ?_ _)); exact BK231.out⟩, ⟨bl⟩⟩
    · replace c10 := Bool.eq_false_iff.mpr c10
      subst c10
      have H1 : (impl_alike.j0 k a0 a2 true a1_0 a1_1 a1_2 a1_3 a3_0 a3_1 a3_2 a3_3 l3_4) = some (r1, r2, r3, r4) := by rw [if_neg (show ¬ (false = true) by decide)] at H; exact H
      clear H
      have H := H1
      clear H1
      have H' := Aside0.mk H
      clear H
      have hnb16 := NB229_230.out
      have hnc16 := NB230_229.out
      have hnb17 := NB229_231.out
      have hnc17 := NB231_229.out
      have hcz18_0 : ∀ i, w8.cell? ⟨gb229, i, none⟩ = _ := blk_cell BK229.out
      have hcz18_1 : w8.cell? ⟨gb229, 1, none⟩ = some (.bool a1_1) := (blk_cell BK229.out 1).trans rfl
      have hcz18_2 : w8.cell? ⟨gb229, 2, none⟩ = some (.bool a1_2) := (blk_cell BK229.out 2).trans rfl
      have hcz18_3 : w8.cell? ⟨gb229, 3, none⟩ = some (.bool a1_3) := (blk_cell BK229.out 3).trans rfl
      have hfz18_0 := blk_frozen BK229.out
      have hfz18_1 := blk_frozen BK229.out 1
      have hfz18_2 := blk_frozen BK229.out 2
      have hfz18_3 := blk_frozen BK229.out 3
      go_wp2_with (first | ((with_reducible refine gate_callee (f := 119) rfl ?_); refine goesL_ (some 13) rfl rfl Try.func119 (by kernel_rfl) rfl #[.agg #[.int .i64 a1_0, .bool a1_1, .bool a1_2, .bool a1_3]] rfl (by (try simp only [List.map_toArray, List.map_cons, List.map_nil]); first | done | rfl | (simp only [List.length_drop, List.length_take]; rfl)) ?_; (with_reducible refine (impl_ParOk.calls a1_0 a1_1 a1_2 a1_3 false _ A9.out).mono ?_); rintro e w19 ⟨rfl, hb⟩; refine ⟨_, rfl, ?_⟩; have n0_ := Aside0.mk (Kd.V_below (by (with_reducible repeat (first | apply Kd.V_alloc | apply Kd.V_drewN | apply Kd.V_drew)); exact HO3_4.out) hb); have n1_ := Aside0.mk (blk_below (bx BK229.out) hb); have n2_ := Aside0.mk (blk_below (bx BK230.out) hb); have n3_ := Aside0.mk (blk_below (bx BK231.out) hb); have n4_ := bs HB hb; clear HO3_4; clear BK229; clear BK230; clear BK231; clear HB; have HO3_4 := n0_; have BK229 := n1_; have BK230 := n2_; have BK231 := n3_; have HB := n4_; clear n0_ n1_ n2_ n3_ n4_; (try clear hb); (try clear hb2); (try clear hk); (try clear hi)))
      go_meet
      case rel => exact ⟨_, (true), (by first | rfl | (simp; done) | (simp [*]; done)), H', ⟨by first | omega | exact Nat.le_refl _⟩, ⟨by (with_reducible repeat (first | apply Kd.V_alloc | apply Kd.V_drewN | apply Kd.V_drew)); exact Kd.V_mono HO3_4.out (fun _ hk => ⟨hk.1.1.1, ⟨hk.1.1.2, ⟨hk.1.2, hk.2⟩⟩⟩)⟩, ⟨by (with_reducible repeat (first | refine blk_drewN ?_ _ | refine blk_drew ?_ | refine blk_alloc ?_ _)); exact BK229.out⟩, ⟨by (with_reducible repeat (first | refine blk_drewN ?_ _ | refine blk_drew ?_ | refine blk_alloc ?_ _)); exact BK230.out⟩, ⟨by (with_reducible repeat (first | refine blk_drewN ?_ _ | refine blk_drew ?_ | refine blk_alloc ?_ _)); exact BK231.out⟩, ⟨bl⟩⟩
  case rest =>
    clear HC5
    (try clear c1); (try clear p2); (try clear c3); (try clear c8); (try clear c10); (try clear c11); (try clear c12); (try clear c13); (try clear c16); (try clear c17); (try clear hcz14_0); (try clear hcz14_1); (try clear hcz14_2); (try clear hcz14_3); (try clear hcz18_0); (try clear hcz18_1); (try clear hcz18_2); (try clear hcz18_3); (try clear hfz14_0); (try clear hfz14_1); (try clear hfz14_2); (try clear hfz14_3); (try clear hfz18_0); (try clear hfz18_1); (try clear hfz18_2); (try clear hfz18_3)
    obtain ⟨kq, x19_4, rfl, HA, HJ4, HO_231004, BK229, BK230, BK231, HB⟩ := hcut
    cases kq with
    | zero => exact absurd HA.out (by simp [impl_alike.j0])
    | succ kj4 =>
      have H := HA.out
      clear HA
      simp only [impl_alike.j0] at H
      by_cases c20 : x19_4 = true
      · subst c20
        rw [if_pos rfl] at H
        simp only [Option.some.injEq, Prod.mk.injEq] at H
        obtain ⟨rfl, rfl, rfl, rfl⟩ := H
        have hnb21 := NB231_229.out
        have hnc21 := NB229_231.out
        have hnb22 := NB231_230.out
        have hnc22 := NB230_231.out
        have hcz23_0 : ∀ i, wc.cell? ⟨gb231, i, none⟩ = _ := blk_cell BK231.out
        have hcz23_1 : wc.cell? ⟨gb231, 1, none⟩ = some (.int .i64 0) := (blk_cell BK231.out 1).trans rfl
        have hcz23_2 : wc.cell? ⟨gb231, 2, none⟩ = some (.string (⟨#[]⟩ : ByteArray)) := (blk_cell BK231.out 2).trans rfl
        have hfz23_0 := blk_frozen BK231.out
        have hfz23_1 := blk_frozen BK231.out 1
        have hfz23_2 := blk_frozen BK231.out 2
        go_wp2
        refine bodyPost_ret (results_ct rfl _ _ gb231 48 #[.bool false, .int .i64 0, .string (⟨#[]⟩ : ByteArray)] (0, 0) _ rfl (by (with_reducible repeat (first | refine blk_drewN ?_ _ | refine blk_drew ?_ | refine blk_alloc ?_ _)); refine blk_put (cs := #[.bool false, .int .i64 0, .string (⟨#[]⟩ : ByteArray)]) ?_ 2 _ rfl; (with_reducible repeat (first | refine blk_drewN ?_ _ | refine blk_drew ?_ | refine blk_alloc ?_ _)); refine blk_put (cs := #[.bool false, .int .i64 0, .string (⟨#[]⟩ : ByteArray)]) ?_ 1 _ rfl; (with_reducible repeat (first | refine blk_drewN ?_ _ | refine blk_drew ?_ | refine blk_alloc ?_ _)); refine blk_put (cs := #[.bool false, .int .i64 0, .string (⟨#[]⟩ : ByteArray)]) ?_ 0 _ rfl; (with_reducible repeat (first | refine blk_drewN ?_ _ | refine blk_drew ?_ | refine blk_alloc ?_ _)); exact BK231.out) Try.underlying48 rfl (by kernel_rfl)) rfl ?_
        exact ⟨rr, bl⟩
      · replace c20 := Bool.eq_false_iff.mpr c20
        subst c20
        have H1 : (impl_alike.l0 kj4 (([] : List (S122))) a0 0 a1_0 a1_1 a1_2 a1_3 a3_0 a3_1 a3_2 a3_3 l3_4 a2 a1_0 (⟨#[]⟩ : ByteArray)) = some (r1, r2, r3, r4) := by rw [if_neg (show ¬ (false = true) by decide)] at H; exact H
        clear H
        have H := H1
        clear H1
        obtain ⟨y235, hy235⟩ : ∃ y_ : List (S122), y_ = (([] : List (S122))) := ⟨_, rfl⟩
        replace H : (impl_alike.l0 kj4 y235 a0 0 a1_0 a1_1 a1_2 a1_3 a3_0 a3_1 a3_2 a3_3 l3_4 a2 a1_0 (⟨#[]⟩ : ByteArray)) = some (r1, r2, r3, r4) := by first | (rw [hy235]; with_reducible exact H) | (have H2_ := (Option.bind_some _ _).symm.trans H; rw [hy235]; with_reducible exact H2_) | (have H2_ := (Option.bind_some _ _).symm.trans H; with_reducible exact H2_) | with_reducible exact H | (rw [hy235]; exact H) | exact H
        have Ny235 := Aside0.mk hy235
        clear hy235
        have H' := Aside0.mk H
        clear H
        have hnb24 := NB229_230.out
        have hnc24 := NB230_229.out
        have hnb25 := NB229_231.out
        have hnc25 := NB231_229.out
        have hcz26_0 : ∀ i, wc.cell? ⟨gb229, i, none⟩ = _ := blk_cell BK229.out
        have hcz26_1 : wc.cell? ⟨gb229, 1, none⟩ = some (.bool a1_1) := (blk_cell BK229.out 1).trans rfl
        have hcz26_2 : wc.cell? ⟨gb229, 2, none⟩ = some (.bool a1_2) := (blk_cell BK229.out 2).trans rfl
        have hcz26_3 : wc.cell? ⟨gb229, 3, none⟩ = some (.bool a1_3) := (blk_cell BK229.out 3).trans rfl
        have hfz26_0 := blk_frozen BK229.out
        have hfz26_1 := blk_frozen BK229.out 1
        have hfz26_2 := blk_frozen BK229.out 2
        have hfz26_3 := blk_frozen BK229.out 3
        go_wp2_with (first | ((with_reducible refine gate_dst (N := 10) rfl ?_); refine box_event ?hg (N := 10) ?hd (cs := #[.bool false, .int .i64 0, .string (⟨#[]⟩ : ByteArray)]) (t := 48) ?hr ?_; (case hd => rfl); (case hg => rfl); (case hr => first | (go_simp; done) | (go_simp; rfl)); intro gb234 hg w27 hbox hb; have n0_ := Aside0.mk (Kd.V_below (Kd.V_elderB (by (with_reducible repeat (first | apply Kd.V_alloc | apply Kd.V_drewN | apply Kd.V_drew)); exact HO_231004.out) gb234 (Nat.le_of_eq hg.symm)) hb); have n1_ := Aside0.mk (blk_below (bx BK229.out) hb); have n2_ := Aside0.mk (blk_below (bx BK230.out) hb); have n3_ := Aside0.mk (blk_below (bx BK231.out) hb); have n4_ := bs HB hb; have n5_ := Aside0.mk (hbox); have n6_ := bz hg; have n7_ := bz hg; have n8_ := Aside0.mk ((by rw [hg]; exact Nat.ne_of_lt (blk_lt (bx BK229.out)) : gb229 ≠ gb234)); have n9_ := Aside0.mk ((by rw [hg]; exact Nat.ne_of_gt (blk_lt (bx BK229.out)) : gb234 ≠ gb229)); have n10_ := Aside0.mk ((by rw [hg]; exact Nat.ne_of_lt (blk_lt (bx BK230.out)) : gb230 ≠ gb234)); have n11_ := Aside0.mk ((by rw [hg]; exact Nat.ne_of_gt (blk_lt (bx BK230.out)) : gb234 ≠ gb230)); have n12_ := Aside0.mk ((by rw [hg]; exact Nat.ne_of_lt (blk_lt (bx BK231.out)) : gb231 ≠ gb234)); have n13_ := Aside0.mk ((by rw [hg]; exact Nat.ne_of_gt (blk_lt (bx BK231.out)) : gb234 ≠ gb231)); clear HO_231004; clear BK229; clear BK230; clear BK231; clear HB; have HO_231004 := n0_; have BK229 := n1_; have BK230 := n2_; have BK231 := n3_; have HB := n4_; have BK234 := n5_; have GW234 := n6_; have GE234 := n7_; have NB229_234 := n8_; have NB234_229 := n9_; have NB230_234 := n10_; have NB234_230 := n11_; have NB231_234 := n12_; have NB234_231 := n13_; clear n0_ n1_ n2_ n3_ n4_ n5_ n6_ n7_ n8_ n9_ n10_ n11_ n12_ n13_; clear hb hbox hg; have hnb28 := NB234_229.out; have hnc28 := NB229_234.out; have hnb29 := NB234_230.out; have hnc29 := NB230_234.out; have hnb30 := NB234_231.out; have hnc30 := NB231_234.out; have hcz31_0 : ∀ i, w27.cell? ⟨gb234, i, none⟩ = _ := blk_cell BK234.out; have hfz31_0 := blk_frozen BK234.out) | ((with_reducible refine gate_dst (N := 25) rfl ?_); refine Kd.N_lit k122 _ 122 ?hg (N' := 25) ?hd (xs := ([] : List (S122))) (inner := []) (ok := (fun k_ => (P3_4_ k_ ∨ w.heap.size ≤ k_) ∧ k_ ≠ gb229 ∧ k_ ≠ gb230 ∧ k_ ≠ gb231 ∧ k_ ≠ gb234)) (okp := (fun k_ => (P3_4_ k_ ∨ w.heap.size ≤ k_) ∧ k_ ≠ gb229 ∧ k_ ≠ gb230 ∧ k_ ≠ gb231 ∧ k_ ≠ gb234)) ?hr ?hp (fun _ hk => hk) ((show ∀ k_, (_ : World).heap.size ≤ k_ → (fun k_ => (P3_4_ k_ ∨ w.heap.size ≤ k_) ∧ k_ ≠ gb229 ∧ k_ ≠ gb230 ∧ k_ ≠ gb231 ∧ k_ ≠ gb234) k_ from fun k_ hk => ⟨(.inr (Nat.le_trans (below_size bl) hk)), Kd.freshB (g := gb229) (o := .cells #[.int .i64 a1_0, .bool a1_1, .bool a1_2, .bool a1_3] 37 (0, 0)) (by (with_reducible repeat (first | refine blk_drewN ?_ _ | refine blk_drew ?_ | refine blk_alloc ?_ _)); refine blk_far ?_ NB229_234.out _; (with_reducible repeat (first | refine blk_drewN ?_ _ | refine blk_drew ?_ | refine blk_alloc ?_ _)); refine blk_far ?_ NB229_234.out _; (with_reducible repeat (first | refine blk_drewN ?_ _ | refine blk_drew ?_ | refine blk_alloc ?_ _)); refine blk_far ?_ NB229_234.out _; (with_reducible repeat (first | refine blk_drewN ?_ _ | refine blk_drew ?_ | refine blk_alloc ?_ _)); exact BK229.out) k_ hk, Kd.freshB (g := gb230) (o := .cells #[.int .i64 a3_0, .int .i64 a3_1, .int .i64 a3_2, .int .i64 a3_3, .slice A3_4 l3_4.length c3_4] 122 (0, 0)) (by (with_reducible repeat (first | refine blk_drewN ?_ _ | refine blk_drew ?_ | refine blk_alloc ?_ _)); refine blk_far ?_ NB230_234.out _; (with_reducible repeat (first | refine blk_drewN ?_ _ | refine blk_drew ?_ | refine blk_alloc ?_ _)); refine blk_far ?_ NB230_234.out _; (with_reducible repeat (first | refine blk_drewN ?_ _ | refine blk_drew ?_ | refine blk_alloc ?_ _)); refine blk_far ?_ NB230_234.out _; (with_reducible repeat (first | refine blk_drewN ?_ _ | refine blk_drew ?_ | refine blk_alloc ?_ _)); exact BK230.out) k_ hk, Kd.freshB (g := gb231) (o := .cells #[.bool false, .int .i64 0, .string (⟨#[]⟩ : ByteArray)] 48 (0, 0)) (by (with_reducible repeat (first | refine blk_drewN ?_ _ | refine blk_drew ?_ | refine blk_alloc ?_ _)); refine blk_far ?_ NB231_234.out _; (with_reducible repeat (first | refine blk_drewN ?_ _ | refine blk_drew ?_ | refine blk_alloc ?_ _)); refine blk_far ?_ NB231_234.out _; (with_reducible repeat (first | refine blk_drewN ?_ _ | refine blk_drew ?_ | refine blk_alloc ?_ _)); refine blk_far ?_ NB231_234.out _; (with_reducible repeat (first | refine blk_drewN ?_ _ | refine blk_drew ?_ | refine blk_alloc ?_ _)); exact BK231.out) k_ hk, Kd.freshB (g := gb234) (o := .cells #[.bool a2, .int .i64 a1_0, .string (⟨#[]⟩ : ByteArray)] 48 (0, 0)) (by (with_reducible repeat (first | refine blk_drewN ?_ _ | refine blk_drew ?_ | refine blk_alloc ?_ _)); refine blk_put (cs := #[.bool a2, .int .i64 a1_0, .string (⟨#[]⟩ : ByteArray)]) ?_ 2 _ rfl; (with_reducible repeat (first | refine blk_drewN ?_ _ | refine blk_drew ?_ | refine blk_alloc ?_ _)); refine blk_put (cs := #[.bool a2, .int .i64 0, .string (⟨#[]⟩ : ByteArray)]) ?_ 1 _ rfl; (with_reducible repeat (first | refine blk_drewN ?_ _ | refine blk_drew ?_ | refine blk_alloc ?_ _)); refine blk_put (cs := #[.bool false, .int .i64 0, .string (⟨#[]⟩ : ByteArray)]) ?_ 0 _ rfl; (with_reducible repeat (first | refine blk_drewN ?_ _ | refine blk_drew ?_ | refine blk_alloc ?_ _)); exact BK234.out) k_ hk⟩) _ (Nat.le_refl _)) (Below.refl _ _) (Nat.le_refl _) (by simp) ?_; (case hd => rfl); (case hg => rfl); (case hr => first | (go_simp; done) | (go_simp; rfl)); (case hp => exact (Reps.none _ _)); intro v236 w32 ho33 hb hg_ hnew_; clear hg_ hnew_; (first | rw [← Ny235.out] at ho33 | (simp only [Int.reduceToNat] at ho33; rw [← Ny235.out] at ho33)); have n0_ := Aside0.mk (Kd.V_elder' (by (with_reducible repeat (first | apply Kd.V_alloc | apply Kd.V_drewN | apply Kd.V_drew)); exact (Kd.V_mono (Kd.V_far (p := ⟨gb234, 2, none⟩) (Kd.V_far (p := ⟨gb234, 1, none⟩) (Kd.V_far (p := ⟨gb234, 0, none⟩) (Kd.V_mono HO_231004.out (fun k_ hk => (⟨hk, hk.2⟩ : _ ∧ k_ ≠ gb234))) (fun _ hk => hk.2) (.bool a2)) (fun _ hk => hk.2) (.int .i64 a1_0)) (fun _ hk => hk.2) (.string (⟨#[]⟩ : ByteArray))) (fun _ h_ => h_.1))) (Kd.N_base ho33) hb); have n1_ := Aside0.mk (Kd.N_lower ho33 (below_size bl)); have n2_ := Aside0.mk (blk_below (g := gb229) (o := .cells #[.int .i64 a1_0, .bool a1_1, .bool a1_2, .bool a1_3] 37 (0, 0)) (by (with_reducible repeat (first | refine blk_drewN ?_ _ | refine blk_drew ?_ | refine blk_alloc ?_ _)); refine blk_far ?_ NB229_234.out _; (with_reducible repeat (first | refine blk_drewN ?_ _ | refine blk_drew ?_ | refine blk_alloc ?_ _)); refine blk_far ?_ NB229_234.out _; (with_reducible repeat (first | refine blk_drewN ?_ _ | refine blk_drew ?_ | refine blk_alloc ?_ _)); refine blk_far ?_ NB229_234.out _; (with_reducible repeat (first | refine blk_drewN ?_ _ | refine blk_drew ?_ | refine blk_alloc ?_ _)); exact BK229.out) hb); have n3_ := Aside0.mk (blk_below (g := gb230) (o := .cells #[.int .i64 a3_0, .int .i64 a3_1, .int .i64 a3_2, .int .i64 a3_3, .slice A3_4 l3_4.length c3_4] 122 (0, 0)) (by (with_reducible repeat (first | refine blk_drewN ?_ _ | refine blk_drew ?_ | refine blk_alloc ?_ _)); refine blk_far ?_ NB230_234.out _; (with_reducible repeat (first | refine blk_drewN ?_ _ | refine blk_drew ?_ | refine blk_alloc ?_ _)); refine blk_far ?_ NB230_234.out _; (with_reducible repeat (first | refine blk_drewN ?_ _ | refine blk_drew ?_ | refine blk_alloc ?_ _)); refine blk_far ?_ NB230_234.out _; (with_reducible repeat (first | refine blk_drewN ?_ _ | refine blk_drew ?_ | refine blk_alloc ?_ _)); exact BK230.out) hb); have n4_ := Aside0.mk (blk_below (g := gb231) (o := .cells #[.bool false, .int .i64 0, .string (⟨#[]⟩ : ByteArray)] 48 (0, 0)) (by (with_reducible repeat (first | refine blk_drewN ?_ _ | refine blk_drew ?_ | refine blk_alloc ?_ _)); refine blk_far ?_ NB231_234.out _; (with_reducible repeat (first | refine blk_drewN ?_ _ | refine blk_drew ?_ | refine blk_alloc ?_ _)); refine blk_far ?_ NB231_234.out _; (with_reducible repeat (first | refine blk_drewN ?_ _ | refine blk_drew ?_ | refine blk_alloc ?_ _)); refine blk_far ?_ NB231_234.out _; (with_reducible repeat (first | refine blk_drewN ?_ _ | refine blk_drew ?_ | refine blk_alloc ?_ _)); exact BK231.out) hb); have n5_ := Aside0.mk (blk_below (g := gb234) (o := .cells #[.bool a2, .int .i64 a1_0, .string (⟨#[]⟩ : ByteArray)] 48 (0, 0)) (by (with_reducible repeat (first | refine blk_drewN ?_ _ | refine blk_drew ?_ | refine blk_alloc ?_ _)); refine blk_put (cs := #[.bool a2, .int .i64 a1_0, .string (⟨#[]⟩ : ByteArray)]) ?_ 2 _ rfl; (with_reducible repeat (first | refine blk_drewN ?_ _ | refine blk_drew ?_ | refine blk_alloc ?_ _)); refine blk_put (cs := #[.bool a2, .int .i64 0, .string (⟨#[]⟩ : ByteArray)]) ?_ 1 _ rfl; (with_reducible repeat (first | refine blk_drewN ?_ _ | refine blk_drew ?_ | refine blk_alloc ?_ _)); refine blk_put (cs := #[.bool false, .int .i64 0, .string (⟨#[]⟩ : ByteArray)]) ?_ 0 _ rfl; (with_reducible repeat (first | refine blk_drewN ?_ _ | refine blk_drew ?_ | refine blk_alloc ?_ _)); exact BK234.out) hb); have n6_ := bs HB hb; clear HO_231004; clear BK229; clear BK230; clear BK231; clear BK234; clear HB; have HO_231004 := n0_; have HO237 := n1_; have BK229 := n2_; have BK230 := n3_; have BK231 := n4_; have BK234 := n5_; have HB := n6_; clear n0_ n1_ n2_ n3_ n4_ n5_ n6_; clear hb ho33))
        go_loopg [11, 27] kj4 (fun kq v11 v27 w' => ∃ (x11_2 : List (S122)) (x27_2 : Int), v27 = .int .i64 x27_2 ∧ Aside0 (impl_alike.l0 kq x11_2 a0 x27_2 a1_0 a1_1 a1_2 a1_3 a3_0 a3_1 a3_2 a3_3 l3_4 a2 a1_0 (⟨#[]⟩ : ByteArray) = some (r1, r2, r3, r4)) ∧ Aside0 (kq ≤ kj4) ∧ Aside0 (Kd.N k122 122 w' w.heap.size (fun k_ => (P3_4_ k_ ∨ w.heap.size ≤ k_) ∧ k_ ≠ gb229 ∧ k_ ≠ gb230 ∧ k_ ≠ gb231 ∧ k_ ≠ gb234) v11 x11_2) ∧ Aside0 (Kd.V (Kd.int .i64) 3 w' w.heap.size (fun k_ => (P3_4_ k_ ∨ w.heap.size ≤ k_) ∧ some k_ ≠ (v11 : Value).ownBlock ∧ k_ ≠ gb229 ∧ k_ ≠ gb230 ∧ k_ ≠ gb231 ∧ k_ ≠ gb234) (.slice A3_4 l3_4.length c3_4) l3_4) ∧ Aside0 (w'.heap[gb229]? = some (.cells #[.int .i64 a1_0, .bool a1_1, .bool a1_2, .bool a1_3] 37 (0, 0))) ∧ Aside0 (w'.heap[gb230]? = some (.cells #[.int .i64 a3_0, .int .i64 a3_1, .int .i64 a3_2, .int .i64 a3_3, (.slice A3_4 l3_4.length c3_4)] 122 (0, 0))) ∧ Aside0 (w'.heap[gb231]? = some (.cells #[.bool false, .int .i64 0, .string (⟨#[]⟩ : ByteArray)] 48 (0, 0))) ∧ Aside0 (w'.heap[gb234]? = some (.cells #[.bool a2, .int .i64 a1_0, .string (⟨#[]⟩ : ByteArray)] 48 (0, 0))) ∧ Aside0 (Below w.heap.size w w'))
        case atStart => exact ⟨(y235), (0), (by first | rfl | (simp; done) | (simp [*]; done)), H', ⟨Nat.le_refl _⟩, ⟨by (with_reducible repeat (first | apply Kd.N_alloc | apply Kd.N_drewN | apply Kd.N_drew)); exact HO237.out⟩, ⟨by (with_reducible repeat (first | apply Kd.V_alloc | apply Kd.V_drewN | apply Kd.V_drew)); exact Kd.V_mono HO_231004.out (fun _ hk => ⟨hk.1.1.1, ⟨hk.2, ⟨hk.1.1.2.1, ⟨hk.1.1.2.2.1, ⟨hk.1.1.2.2.2, hk.1.2⟩⟩⟩⟩⟩)⟩, ⟨by (with_reducible repeat (first | refine blk_drewN ?_ _ | refine blk_drew ?_ | refine blk_alloc ?_ _)); exact BK229.out⟩, ⟨by (with_reducible repeat (first | refine blk_drewN ?_ _ | refine blk_drew ?_ | refine blk_alloc ?_ _)); exact BK230.out⟩, ⟨by (with_reducible repeat (first | refine blk_drewN ?_ _ | refine blk_drew ?_ | refine blk_alloc ?_ _)); exact BK231.out⟩, ⟨by (with_reducible repeat (first | refine blk_drewN ?_ _ | refine blk_drew ?_ | refine blk_alloc ?_ _)); exact BK234.out⟩, ⟨bl⟩⟩
        case round =>
          clear H'
          (try clear c1); (try clear c2); (try clear p2); (try clear c3); (try clear c8); (try clear c10); (try clear c11); (try clear c12); (try clear c13); (try clear c16); (try clear c17); (try clear c20); (try clear c21); (try clear c22); (try clear c24); (try clear c25); (try clear c28); (try clear c29); (try clear c30); (try clear hcz14_0); (try clear hcz14_1); (try clear hcz14_2); (try clear hcz14_3); (try clear hcz18_0); (try clear hcz18_1); (try clear hcz18_2); (try clear hcz18_3); (try clear hcz23_0); (try clear hcz23_1); (try clear hcz23_2); (try clear hcz26_0); (try clear hcz26_1); (try clear hcz26_2); (try clear hcz26_3); (try clear hcz31_0); (try clear hcz31_1); (try clear hcz31_2); (try clear hfz14_0); (try clear hfz14_1); (try clear hfz14_2); (try clear hfz14_3); (try clear hfz18_0); (try clear hfz18_1); (try clear hfz18_2); (try clear hfz18_3); (try clear hfz23_0); (try clear hfz23_1); (try clear hfz23_2); (try clear hfz26_0); (try clear hfz26_1); (try clear hfz26_2); (try clear hfz26_3); (try clear hfz31_0); (try clear hfz31_1); (try clear hfz31_2); (try clear p2)
          obtain ⟨x11_2, x27_2, rfl, HA, HK2, HO_11, HO_231004, BK229, BK230, BK231, BK234, HB⟩ := hrel
          cases gk with
          | zero => exact absurd HA.out (by simp [impl_alike.l0])
          | succ k2 =>
            have H := HA.out
            clear HA
            simp only [impl_alike.l0] at H
            by_cases c34 : x27_2 < a0
            · rw [if_pos c34] at H
              have c34b0 : decide (x27_2 < a0) = true := decide_eq_true c34
              clear c34
              by_cases c35 : x11_2.length < 2513169434916
              · rw [if_pos c35] at H
                have LMc35 := Aside0.mk c35
                clear c35
                obtain ⟨y238, hy238⟩ : ∃ y_ : List (S122), y_ = (x11_2 ++ [(⟨a3_0, a3_1, a3_2, a3_3, l3_4⟩ : S122)]) := ⟨_, rfl⟩
                replace H : (impl_alike.l0 k2 y238 a0 (wrap64 (x27_2 + 1)) a1_0 a1_1 a1_2 a1_3 a3_0 a3_1 a3_2 a3_3 l3_4 a2 a1_0 (⟨#[]⟩ : ByteArray)) = some (r1, r2, r3, r4) := by first | (rw [hy238]; with_reducible exact H) | (have H2_ := (Option.bind_some _ _).symm.trans H; rw [hy238]; with_reducible exact H2_) | (have H2_ := (Option.bind_some _ _).symm.trans H; with_reducible exact H2_) | with_reducible exact H | (rw [hy238]; exact H) | exact H
                have Ny238 := Aside0.mk hy238
                clear hy238
                have H' := Aside0.mk H
                clear H
                have hnb36 := NB230_229.out
                have hnc36 := NB229_230.out
                have hnb37 := NB230_231.out
                have hnc37 := NB231_230.out
                have hnb38 := NB230_234.out
                have hnc38 := NB234_230.out
                have hcz39_0 : ∀ i, wr.cell? ⟨gb230, i, none⟩ = _ := blk_cell BK230.out
                have hcz39_1 : wr.cell? ⟨gb230, 1, none⟩ = some (.int .i64 a3_1) := (blk_cell BK230.out 1).trans rfl
                have hcz39_2 : wr.cell? ⟨gb230, 2, none⟩ = some (.int .i64 a3_2) := (blk_cell BK230.out 2).trans rfl
                have hcz39_3 : wr.cell? ⟨gb230, 3, none⟩ = some (.int .i64 a3_3) := (blk_cell BK230.out 3).trans rfl
                have hcz39_4 : wr.cell? ⟨gb230, 4, none⟩ = some (.slice A3_4 l3_4.length c3_4) := (blk_cell BK230.out 4).trans rfl
                have hfz39_0 := blk_frozen BK230.out
                have hfz39_1 := blk_frozen BK230.out 1
                have hfz39_2 := blk_frozen BK230.out 2
                have hfz39_3 := blk_frozen BK230.out 3
                have hfz39_4 := blk_frozen BK230.out 4
                go_wp2_with (first | ((with_reducible refine gate_builtin (b := .append) (xs := #[.tmp 29, .tmp 31]) rfl ?_); at_builtin; refine Kd.N_append k122 (w0 := w) w.heap.size rfl (.tmp 29) (.tmp 31) 160 122 (.agg #[(.int .i64 0), (.int .i64 0), (.int .i64 0), (.int .i64 0), (.slice none 0 0)]) 56 rfl Try.underlying160 info122 rfl (by decide) (by omega) u11 x11_2 (⟨a3_0, a3_1, a3_2, a3_3, l3_4⟩ : S122) [.int .i64 a3_0, .int .i64 a3_1, .int .i64 a3_2, .int .i64 a3_3, .slice A3_4 l3_4.length c3_4] (fun k_ => (P3_4_ k_ ∨ w.heap.size ≤ k_) ∧ k_ ≠ gb229 ∧ k_ ≠ gb230 ∧ k_ ≠ gb231 ∧ k_ ≠ gb234) (fun k_ => ((fun k_ => (P3_4_ k_ ∨ w.heap.size ≤ k_) ∧ k_ ≠ gb229 ∧ k_ ≠ gb230 ∧ k_ ≠ gb231 ∧ k_ ≠ gb234)) k_ ∧ some k_ ≠ (u11 : Value).ownBlock) rfl rfl ?aP (fun _ hk => hk) ?aF ?aO ?aB ?aS ?aL ?_; (case aP => exact (k122_mkF _ _ (⟨a3_0, a3_1, a3_2, a3_3, l3_4⟩ : S122) (Kd.V_reads' (Kd.V_mono (ok' := (fun k_ => ((fun k_ => (P3_4_ k_ ∨ w.heap.size ≤ k_) ∧ k_ ≠ gb229 ∧ k_ ≠ gb230 ∧ k_ ≠ gb231 ∧ k_ ≠ gb234)) k_ ∧ some k_ ≠ (u11 : Value).ownBlock)) (HO_231004.out) (fun k_ hk => ⟨⟨hk.1, ⟨hk.2.2.1, ⟨hk.2.2.2.1, ⟨hk.2.2.2.2.1, hk.2.2.2.2.2⟩⟩⟩⟩, hk.2.1⟩))).2.1 (Kd.V_F (Kd.V_mono (ok' := (fun k_ => ((fun k_ => (P3_4_ k_ ∨ w.heap.size ≤ k_) ∧ k_ ≠ gb229 ∧ k_ ≠ gb230 ∧ k_ ≠ gb231 ∧ k_ ≠ gb234)) k_ ∧ some k_ ≠ (u11 : Value).ownBlock)) (HO_231004.out) (fun k_ hk => ⟨⟨hk.1, ⟨hk.2.2.1, ⟨hk.2.2.2.1, ⟨hk.2.2.2.2.1, hk.2.2.2.2.2⟩⟩⟩⟩, hk.2.1⟩))))); (case aB => exact bl); (case aF => exact (fun k_ hk => ⟨(.inr (Nat.le_trans (below_size bl) hk)), Kd.freshB (bx BK229.out) k_ hk, Kd.freshB (bx BK230.out) k_ hk, Kd.freshB (bx BK231.out) k_ hk, Kd.freshB (bx BK234.out) k_ hk⟩)); (case aO => exact (by (with_reducible repeat (first | apply Kd.N_alloc | apply Kd.N_drewN | apply Kd.N_drew)); exact HO_11.out)); (case aS => exact (below_size bl)); (case aL => have := LMc35.out; omega); intro v239 w40 ho hb hg hat; rw [← Ny238.out] at ho; have n0_ := Aside0.mk (Kd.V_afterv (ok := (fun k_ => (P3_4_ k_ ∨ w.heap.size ≤ k_) ∧ k_ ≠ gb229 ∧ k_ ≠ gb230 ∧ k_ ≠ gb231 ∧ k_ ≠ gb234)) (by (with_reducible repeat (first | apply Kd.V_alloc | apply Kd.V_drewN | apply Kd.V_drew)); exact Kd.V_mono HO_231004.out (fun _ hk => ⟨⟨hk.1, ⟨hk.2.2.1, ⟨hk.2.2.2.1, ⟨hk.2.2.2.2.1, hk.2.2.2.2.2⟩⟩⟩⟩, hk.2.1⟩)) hg hat); have n1_ := Aside0.mk (blk_grown (bx BK229.out) hg (Kd.N_ne HO_11.out BK229.out (by decide))); have n2_ := Aside0.mk (blk_grown (bx BK230.out) hg (Kd.N_away HO_11.out (fun _ hk => hk.2.2.1))); have n3_ := Aside0.mk (blk_grown (bx BK231.out) hg (Kd.N_ne HO_11.out BK231.out (by decide))); have n4_ := Aside0.mk (blk_grown (bx BK234.out) hg (Kd.N_ne HO_11.out BK234.out (by decide))); have n5_ := Aside0.mk (hb); have n6_ := Aside0.mk (ho); clear HO_231004; clear BK229; clear BK230; clear BK231; clear BK234; clear HB; clear HO_11; have HO_231004 := n0_; have BK229 := n1_; have BK230 := n2_; have BK231 := n3_; have BK234 := n4_; have HB := n5_; have HO240 := n6_; clear n0_ n1_ n2_ n3_ n4_ n5_ n6_; clear ho hb hg hat))
                go_roundg k2
                case measure => have := HJ4.out; have := HK2.out; omega
                case rel => exact ⟨(y238), (wrap64 (x27_2 + 1)), (by first | rfl | (simp; done) | (simp [*]; done)), H', ⟨by have := HJ4.out; have := HK2.out; omega⟩, ⟨by (with_reducible repeat (first | apply Kd.N_alloc | apply Kd.N_drewN | apply Kd.N_drew)); exact HO240.out⟩, ⟨by (with_reducible repeat (first | apply Kd.V_alloc | apply Kd.V_drewN | apply Kd.V_drew)); exact Kd.V_mono HO_231004.out (fun _ hk => ⟨hk.1.1, ⟨hk.2, ⟨hk.1.2.1, ⟨hk.1.2.2.1, ⟨hk.1.2.2.2.1, hk.1.2.2.2.2⟩⟩⟩⟩⟩)⟩, ⟨by (with_reducible repeat (first | refine blk_drewN ?_ _ | refine blk_drew ?_ | refine blk_alloc ?_ _)); exact BK229.out⟩, ⟨by (with_reducible repeat (first | refine blk_drewN ?_ _ | refine blk_drew ?_ | refine blk_alloc ?_ _)); exact BK230.out⟩, ⟨by (with_reducible repeat (first | refine blk_drewN ?_ _ | refine blk_drew ?_ | refine blk_alloc ?_ _)); exact BK231.out⟩, ⟨by (with_reducible repeat (first | refine blk_drewN ?_ _ | refine blk_drew ?_ | refine blk_alloc ?_ _)); exact BK234.out⟩, ⟨bl⟩⟩
              · rw [if_neg c35] at H
                exact absurd H (by simp)
            · rw [if_neg c34] at H
              have c34b0 : decide (x27_2 < a0) = false := decide_eq_false c34
              clear c34
              replace H := Option.bind_eq_some_iff.mp H
              obtain ⟨⟨t241, t242, t243, t244⟩, A410, H⟩ := H
              (try dsimp only at H)
              have A41 := Aside0.mk A410
              clear A410
              replace H := Option.bind_eq_some_iff.mp H
              obtain ⟨⟨t245, t246⟩, A420, H⟩ := H
              (try dsimp only at H)
              have A42 := Aside0.mk A420
              clear A420
              simp only [Option.some.injEq, Prod.mk.injEq] at H
              obtain ⟨rfl, rfl, rfl, rfl⟩ := H
              have hnb43 := NB229_230.out
              have hnc43 := NB230_229.out
              have hnb44 := NB229_231.out
              have hnc44 := NB231_229.out
              have hnb45 := NB229_234.out
              have hnc45 := NB234_229.out
              have hcz46_0 : ∀ i, wr.cell? ⟨gb229, i, none⟩ = _ := blk_cell BK229.out
              have hcz46_1 : wr.cell? ⟨gb229, 1, none⟩ = some (.bool a1_1) := (blk_cell BK229.out 1).trans rfl
              have hcz46_2 : wr.cell? ⟨gb229, 2, none⟩ = some (.bool a1_2) := (blk_cell BK229.out 2).trans rfl
              have hcz46_3 : wr.cell? ⟨gb229, 3, none⟩ = some (.bool a1_3) := (blk_cell BK229.out 3).trans rfl
              have hfz46_0 := blk_frozen BK229.out
              have hfz46_1 := blk_frozen BK229.out 1
              have hfz46_2 := blk_frozen BK229.out 2
              have hfz46_3 := blk_frozen BK229.out 3
              have hnb47 := NB234_230.out
              have hnc47 := NB230_234.out
              have hnb48 := NB234_231.out
              have hnc48 := NB231_234.out
              have hcz49_0 : ∀ i, wr.cell? ⟨gb234, i, none⟩ = _ := blk_cell BK234.out
              have hcz49_1 : wr.cell? ⟨gb234, 1, none⟩ = some (.int .i64 a1_0) := (blk_cell BK234.out 1).trans rfl
              have hcz49_2 : wr.cell? ⟨gb234, 2, none⟩ = some (.string (⟨#[]⟩ : ByteArray)) := (blk_cell BK234.out 2).trans rfl
              have hfz49_0 := blk_frozen BK234.out
              have hfz49_1 := blk_frozen BK234.out 1
              have hfz49_2 := blk_frozen BK234.out 2
              go_wp2_with (first | ((with_reducible refine gate_callee (f := 133) rfl ?_); refine goesL_ (some 38) rfl rfl Try.func133 (by kernel_rfl) rfl #[.agg #[.int .i64 a1_0, .bool a1_1, .bool a1_2, .bool a1_3], .agg #[.bool a2, .int .i64 a1_0, .string (⟨#[]⟩ : ByteArray)]] rfl (by (try simp only [List.map_toArray, List.map_cons, List.map_nil]); first | done | rfl | (simp only [List.length_drop, List.length_take]; rfl)) ?_; (with_reducible refine (impl_CondFor.calls a1_0 a1_1 a1_2 a1_3 a2 a1_0 (⟨#[]⟩ : ByteArray) t241 t242 t243 t244 _ A41.out).mono ?_); rintro e w50 ⟨rfl, hb⟩; refine ⟨_, rfl, ?_⟩; have n0_ := Aside0.mk (Kd.N_below (by (with_reducible repeat (first | apply Kd.N_alloc | apply Kd.N_drewN | apply Kd.N_drew)); exact HO_11.out) hb); have n1_ := Aside0.mk (Kd.V_below (by (with_reducible repeat (first | apply Kd.V_alloc | apply Kd.V_drewN | apply Kd.V_drew)); exact HO_231004.out) hb); have n2_ := Aside0.mk (blk_below (bx BK229.out) hb); have n3_ := Aside0.mk (blk_below (bx BK230.out) hb); have n4_ := Aside0.mk (blk_below (bx BK231.out) hb); have n5_ := Aside0.mk (blk_below (bx BK234.out) hb); have n6_ := bs HB hb; clear HO_11; clear HO_231004; clear BK229; clear BK230; clear BK231; clear BK234; clear HB; have HO_11 := n0_; have HO_231004 := n1_; have BK229 := n2_; have BK230 := n3_; have BK231 := n4_; have BK234 := n5_; have HB := n6_; clear n0_ n1_ n2_ n3_ n4_ n5_ n6_; (try clear hb); (try clear hb2); (try clear hk); (try clear hi); obtain ⟨Ao51, co51, eo51⟩ := Kd.N_slice HO_11.out; subst eo51) | ((with_reducible refine gate_callee (f := 139) rfl ?_); refine goesL_ (some 39) rfl rfl Try.func139 (by kernel_rfl) rfl #[.slice Ao51 x11_2.length co51, .agg #[.bool t241, .int .i64 t242, .bool t243, .bool t244]] rfl (by (try simp only [List.map_toArray, List.map_cons, List.map_nil]); first | done | rfl | (simp only [List.length_drop, List.length_take]; rfl)) ?_; (with_reducible refine (impl_TileRow.calls k2 _ _ x11_2 t241 t242 t243 t244 t245 t246 _ ?side1 ?side2 A42.out).mono ?_); (case side1 => repeat (first | exact (Kd.N_reads' HO_11.out).2.2 | (with_reducible refine Kd.C_alloc ?_ _) | (with_reducible refine Kd.C_drewN ?_ _) | (with_reducible refine Kd.C_drew ?_))); (case side2 => exact (Kd.N_reads' HO_11.out).2.1); rintro e w52 ⟨rfl, hb⟩; refine ⟨_, rfl, ?_⟩; have n0_ := Aside0.mk (Kd.N_below (by (with_reducible repeat (first | apply Kd.N_alloc | apply Kd.N_drewN | apply Kd.N_drew)); exact HO_11.out) hb); have n1_ := Aside0.mk (Kd.V_below (by (with_reducible repeat (first | apply Kd.V_alloc | apply Kd.V_drewN | apply Kd.V_drew)); exact HO_231004.out) hb); have n2_ := Aside0.mk (blk_below (bx BK229.out) hb); have n3_ := Aside0.mk (blk_below (bx BK230.out) hb); have n4_ := Aside0.mk (blk_below (bx BK231.out) hb); have n5_ := Aside0.mk (blk_below (bx BK234.out) hb); have n6_ := bs HB hb; clear HO_11; clear HO_231004; clear BK229; clear BK230; clear BK231; clear BK234; clear HB; have HO_11 := n0_; have HO_231004 := n1_; have BK229 := n2_; have BK230 := n3_; have BK231 := n4_; have BK234 := n5_; have HB := n6_; clear n0_ n1_ n2_ n3_ n4_ n5_ n6_; (try clear hb); (try clear hb2); (try clear hk); (try clear hi); have hcz53_0 : ∀ i, w52.cell? ⟨gb234, i, none⟩ = _ := blk_cell BK234.out; have hfz53_0 := blk_frozen BK234.out; have hnb54 := NB231_230.out; have hnc54 := NB230_231.out; have hcz55_0 : ∀ i, w52.cell? ⟨gb231, i, none⟩ = _ := blk_cell BK231.out; have hfz55_0 := blk_frozen BK231.out))
              refine bodyPost_ret (results_ct rfl _ _ gb231 48 #[.bool a2, .int .i64 a1_0, .string t245] (0, 0) _ rfl (by (with_reducible repeat (first | refine blk_drewN ?_ _ | refine blk_drew ?_ | refine blk_alloc ?_ _)); refine blk_put (cs := #[.bool a2, .int .i64 a1_0, .string (⟨#[]⟩ : ByteArray)]) ?_ 2 _ rfl; (with_reducible repeat (first | refine blk_drewN ?_ _ | refine blk_drew ?_ | refine blk_alloc ?_ _)); refine blk_put (cs := #[.bool a2, .int .i64 0, .string (⟨#[]⟩ : ByteArray)]) ?_ 1 _ rfl; (with_reducible repeat (first | refine blk_drewN ?_ _ | refine blk_drew ?_ | refine blk_alloc ?_ _)); refine blk_put (cs := #[.bool false, .int .i64 0, .string (⟨#[]⟩ : ByteArray)]) ?_ 0 _ rfl; (with_reducible repeat (first | refine blk_drewN ?_ _ | refine blk_drew ?_ | refine blk_alloc ?_ _)); refine blk_far ?_ NB231_234.out _; (with_reducible repeat (first | refine blk_drewN ?_ _ | refine blk_drew ?_ | refine blk_alloc ?_ _)); exact BK231.out) Try.underlying48 rfl (by kernel_rfl)) rfl ?_
              exact ⟨rr, bl⟩

/-! ### impl_SkipPart: function 29 -/
def impl_SkipPart.f (k : Nat) (a0 : Int) (a1_0 : Int) (a1_1 : Bool) (a1_2 : Bool) (a1_3 : Bool) : Option (Bool × Int × ByteArray × Bool) := (impl_alike.f k a0 a1_0 a1_1 a1_2 a1_3 false 0 0 0 0 ([] : List Int)).bind fun bt249 => (some (bt249.1, bt249.2.1, bt249.2.2.1, bt249.2.2.2))
theorem impl_SkipPart.mono : ∀ a0 a1 a2 a3 a4 k, LeO (impl_SkipPart.f k a0 a1 a2 a3 a4) (impl_SkipPart.f (k + 1) a0 a1 a2 a3 a4) := by
  intro a0 a1 a2 a3 a4 k
  unfold impl_SkipPart.f
  repeat' first
      | (with_reducible exact impl_alike.mono _ _ _ _ _ _ _ _ _ _ _ _)
      | (with_reducible exact LeO.refl _)
      | (with_reducible exact LeO.none _)
      | (with_reducible refine LeO.ite ?_ ?_)
      | (with_reducible refine LeO.bind ?_ (fun _ => ?_))
      | exact impl_alike.mono _ _ _ _ _ _ _ _ _ _ _ _
      | exact LeO.none _
      | refine LeO.ite ?_ ?_
      | refine LeO.bind ?_ (fun _ => ?_)
set_option maxHeartbeats 8000000 in
set_option maxRecDepth 100000 in
theorem impl_SkipPart.calls (k : Nat) (a0 : Int) (a1_0 : Int) (a1_1 : Bool) (a1_2 : Bool) (a1_3 : Bool) (r1 : Bool) (r2 : Int) (r3 : ByteArray) (r4 : Bool) (w : World) (h : impl_SkipPart.f k a0 a1_0 a1_1 a1_2 a1_3 = some (r1, r2, r3, r4)) :
    Calls Try.prog 29 #[.int .i64 a0, .agg #[.int .i64 a1_0, .bool a1_1, .bool a1_2, .bool a1_3]] w fun e w' => e = .returned (.tuple #[.agg #[.bool r1, .int .i64 r2, .string r3], .bool r4]) ∧ Below w.heap.size w w' := by
  have hu37 := Try.underlying37
  have hu48 := Try.underlying48
  have hu122 := Try.underlying122
  have HB := Aside0.mk (Below.refl w.heap.size w)
  have H : ((impl_alike.f k a0 a1_0 a1_1 a1_2 a1_3 false 0 0 0 0 ([] : List Int)).bind fun bt249 => (some (bt249.1, bt249.2.1, bt249.2.2.1, bt249.2.2.2))) = some (r1, r2, r3, r4) := h
  clear h
  replace H := Option.bind_eq_some_iff.mp H
  obtain ⟨⟨t249, t250, t251, t252⟩, A30, H⟩ := H
  (try dsimp only at H)
  have A3 := Aside0.mk A30
  clear A30
  simp only [Option.some.injEq, Prod.mk.injEq] at H
  obtain ⟨rfl, rfl, rfl, rfl⟩ := H
  go_enter Try.func29, Try.ntmps29
  go_wp2_with (first | ((with_reducible refine gate_dst (N := 3) rfl ?_); refine box_event ?hg (N := 3) ?hd (cs := #[.int .i64 a1_0, .bool a1_1, .bool a1_2, .bool a1_3]) (t := 37) ?hr ?_; (case hd => rfl); (case hg => rfl); (case hr => first | (go_simp; done) | (go_simp; rfl)); intro gb247 hg w4 hbox hb; have n0_ := bs HB hb; have n1_ := Aside0.mk (hbox); have n2_ := bz hg; have n3_ := bz hg; clear HB; have HB := n0_; have BK247 := n1_; have GW247 := n2_; have GE247 := n3_; clear n0_ n1_ n2_ n3_; clear hb hbox hg) | ((with_reducible refine gate_dst (N := 4) rfl ?_); refine box_event ?hg (N := 4) ?hd (cs := #[.bool false, .int .i64 0, .string (⟨#[]⟩ : ByteArray)]) (t := 48) ?hr ?_; (case hd => rfl); (case hg => rfl); (case hr => first | (go_simp; done) | (go_simp; rfl)); intro gb248 hg w5 hbox hb; have n0_ := Aside0.mk (blk_below (bx BK247.out) hb); have n1_ := bs HB hb; have n2_ := Aside0.mk (hbox); have n3_ := bz hg; have n4_ := bz hg; have n5_ := Aside0.mk ((by rw [hg]; exact Nat.ne_of_lt (blk_lt (bx BK247.out)) : gb247 ≠ gb248)); have n6_ := Aside0.mk ((by rw [hg]; exact Nat.ne_of_gt (blk_lt (bx BK247.out)) : gb248 ≠ gb247)); clear BK247; clear HB; have BK247 := n0_; have HB := n1_; have BK248 := n2_; have GW248 := n3_; have GE248 := n4_; have NB247_248 := n5_; have NB248_247 := n6_; clear n0_ n1_ n2_ n3_ n4_ n5_ n6_; clear hb hbox hg; have hnb6 := NB247_248.out; have hnc6 := NB248_247.out; have hcz7_0 : ∀ i, w5.cell? ⟨gb247, i, none⟩ = _ := blk_cell BK247.out; have hfz7_0 := blk_frozen BK247.out) | ((with_reducible refine gate_callee (f := 87) rfl ?_); refine goesL_ (some 9) rfl rfl Try.func87 (by kernel_rfl) rfl #[.int .i64 a0, .agg #[.int .i64 a1_0, .bool a1_1, .bool a1_2, .bool a1_3], .bool false, .agg #[.int .i64 0, .int .i64 0, .int .i64 0, .int .i64 0, .slice none 0 0]] rfl (by (try simp only [List.map_toArray, List.map_cons, List.map_nil]); first | done | rfl | (simp only [List.length_drop, List.length_take]; rfl)) ?_; (refine (impl_alike.calls k a0 a1_0 a1_1 a1_2 a1_3 false 0 0 0 0 (fun k_ => False) _ _ ([] : List Int) t249 t250 t251 t252 _ ?side1 A3.out).mono ?_); (case side1 => exact Kd.V_nil _ _ _ _ _); rintro e w8 ⟨rfl, hb⟩; refine ⟨_, rfl, ?_⟩; have n0_ := Aside0.mk (blk_below (bx BK247.out) hb); have n1_ := Aside0.mk (blk_below (bx BK248.out) hb); have n2_ := bs HB hb; clear BK247; clear BK248; clear HB; have BK247 := n0_; have BK248 := n1_; have HB := n2_; clear n0_ n1_ n2_; (try clear hb); (try clear hb2); (try clear hk); (try clear hi); have hcz9_0 : ∀ i, w8.cell? ⟨gb248, i, none⟩ = _ := blk_cell BK248.out; have hfz9_0 := blk_frozen BK248.out))
  refine bodyPost_ret (results_ct rfl _ _ gb248 48 #[.bool t249, .int .i64 t250, .string t251] (0, 0) _ rfl (by (with_reducible repeat (first | refine blk_drewN ?_ _ | refine blk_drew ?_ | refine blk_alloc ?_ _)); refine blk_put (cs := #[.bool t249, .int .i64 t250, .string (⟨#[]⟩ : ByteArray)]) ?_ 2 _ rfl; (with_reducible repeat (first | refine blk_drewN ?_ _ | refine blk_drew ?_ | refine blk_alloc ?_ _)); refine blk_put (cs := #[.bool t249, .int .i64 0, .string (⟨#[]⟩ : ByteArray)]) ?_ 1 _ rfl; (with_reducible repeat (first | refine blk_drewN ?_ _ | refine blk_drew ?_ | refine blk_alloc ?_ _)); refine blk_put (cs := #[.bool false, .int .i64 0, .string (⟨#[]⟩ : ByteArray)]) ?_ 0 _ rfl; (with_reducible repeat (first | refine blk_drewN ?_ _ | refine blk_drew ?_ | refine blk_alloc ?_ _)); exact BK248.out) Try.underlying48 rfl (by kernel_rfl)) rfl ?_
  exact ⟨rr, bl⟩

/-! ### laws_eqPart: function 30 -/
def laws_eqPart.f (a0_0 : Bool) (a0_1 : Int) (a0_2 : ByteArray) (a1_0 : Bool) (a1_1 : Int) (a1_2 : ByteArray) : Option (Bool) := if (a0_0 != a1_0) = true then (some false) else (if a0_1 = a1_1 then (if a0_2.toList = a1_2.toList then (some true) else (some false)) else (some false))
set_option maxHeartbeats 8000000 in
set_option maxRecDepth 100000 in
theorem laws_eqPart.calls (a0_0 : Bool) (a0_1 : Int) (a0_2 : ByteArray) (a1_0 : Bool) (a1_1 : Int) (a1_2 : ByteArray) (r : Bool) (w : World) (h : laws_eqPart.f a0_0 a0_1 a0_2 a1_0 a1_1 a1_2 = some r) :
    Calls Try.prog 30 #[.agg #[.bool a0_0, .int .i64 a0_1, .string a0_2], .agg #[.bool a1_0, .int .i64 a1_1, .string a1_2]] w fun e w' => e = .returned (.bool r) ∧ Below w.heap.size w w' := by
  have hu48 := Try.underlying48
  have HB := Aside0.mk (Below.refl w.heap.size w)
  have H : (if (a0_0 != a1_0) = true then (some false) else (if a0_1 = a1_1 then (if a0_2.toList = a1_2.toList then (some true) else (some false)) else (some false))) = some r := h
  clear h
  by_cases c3 : (a0_0 != a1_0) = true
  · rw [if_pos c3] at H
    have c3b0 : (a0_0 != a1_0) = true := c3
    (try (have c3b1 : decide (a0_0 = a1_0) = false := by simpa using c3))
    (try (have c3b2 : (a0_0 == a1_0) = false := by simpa using c3))
    (try (have c3b3 : ¬ (a0_0 = a1_0) := by simpa using c3))
    clear c3
    obtain rfl := Option.some.inj H
    go_enter Try.func30, Try.ntmps30
    go_wp2_with (first | ((with_reducible refine gate_dst (N := 2) rfl ?_); refine box_event ?hg (N := 2) ?hd (cs := #[.bool a0_0, .int .i64 a0_1, .string a0_2]) (t := 48) ?hr ?_; (case hd => rfl); (case hg => rfl); (case hr => first | (go_simp; done) | (go_simp; rfl)); intro gb253 hg w4 hbox hb; have n0_ := bs HB hb; have n1_ := Aside0.mk (hbox); have n2_ := bz hg; have n3_ := bz hg; clear HB; have HB := n0_; have BK253 := n1_; have GW253 := n2_; have GE253 := n3_; clear n0_ n1_ n2_ n3_; clear hb hbox hg) | ((with_reducible refine gate_dst (N := 3) rfl ?_); refine box_event ?hg (N := 3) ?hd (cs := #[.bool a1_0, .int .i64 a1_1, .string a1_2]) (t := 48) ?hr ?_; (case hd => rfl); (case hg => rfl); (case hr => first | (go_simp; done) | (go_simp; rfl)); intro gb254 hg w5 hbox hb; have n0_ := Aside0.mk (blk_below (bx BK253.out) hb); have n1_ := bs HB hb; have n2_ := Aside0.mk (hbox); have n3_ := bz hg; have n4_ := bz hg; have n5_ := Aside0.mk ((by rw [hg]; exact Nat.ne_of_lt (blk_lt (bx BK253.out)) : gb253 ≠ gb254)); have n6_ := Aside0.mk ((by rw [hg]; exact Nat.ne_of_gt (blk_lt (bx BK253.out)) : gb254 ≠ gb253)); clear BK253; clear HB; have BK253 := n0_; have HB := n1_; have BK254 := n2_; have GW254 := n3_; have GE254 := n4_; have NB253_254 := n5_; have NB254_253 := n6_; clear n0_ n1_ n2_ n3_ n4_ n5_ n6_; clear hb hbox hg; have hnb6 := NB253_254.out; have hnc6 := NB254_253.out; have hcz7_0 : ∀ i, w5.cell? ⟨gb253, i, none⟩ = _ := blk_cell BK253.out; have hfz7_0 := blk_frozen BK253.out; have hcz8_0 : ∀ i, w5.cell? ⟨gb254, i, none⟩ = _ := blk_cell BK254.out; have hfz8_0 := blk_frozen BK254.out))
    go_ret
    exact ⟨rr, bl⟩
  · rw [if_neg c3] at H
    have c3b0 : (a0_0 != a1_0) = false := by simpa using c3
    (try (have c3b1 : decide (a0_0 = a1_0) = true := by simpa using c3))
    (try (have c3b2 : (a0_0 == a1_0) = true := by simpa using c3))
    clear c3
    by_cases c9 : a0_1 = a1_1
    · rw [if_pos c9] at H
      have c9b0 : (a0_1 == a1_1) = true := beq_iff_eq.mpr c9
      have c9b1 : (a0_1 != a1_1) = false := bne_eq_false_iff_eq.mpr c9
      clear c9
      by_cases c10 : a0_2.toList = a1_2.toList
      · rw [if_pos c10] at H
        have c10b0 : (a0_2.toList == a1_2.toList) = true := beq_iff_eq.mpr c10
        have c10b1 : (a0_2.toList != a1_2.toList) = false := bne_eq_false_iff_eq.mpr c10
        clear c10
        obtain rfl := Option.some.inj H
        go_enter Try.func30, Try.ntmps30
        go_wp2_with (first | ((with_reducible refine gate_dst (N := 2) rfl ?_); refine box_event ?hg (N := 2) ?hd (cs := #[.bool a0_0, .int .i64 a0_1, .string a0_2]) (t := 48) ?hr ?_; (case hd => rfl); (case hg => rfl); (case hr => first | (go_simp; done) | (go_simp; rfl)); intro gb253 hg w11 hbox hb; have n0_ := bs HB hb; have n1_ := Aside0.mk (hbox); have n2_ := bz hg; have n3_ := bz hg; clear HB; have HB := n0_; have BK253 := n1_; have GW253 := n2_; have GE253 := n3_; clear n0_ n1_ n2_ n3_; clear hb hbox hg) | ((with_reducible refine gate_dst (N := 3) rfl ?_); refine box_event ?hg (N := 3) ?hd (cs := #[.bool a1_0, .int .i64 a1_1, .string a1_2]) (t := 48) ?hr ?_; (case hd => rfl); (case hg => rfl); (case hr => first | (go_simp; done) | (go_simp; rfl)); intro gb254 hg w12 hbox hb; have n0_ := Aside0.mk (blk_below (bx BK253.out) hb); have n1_ := bs HB hb; have n2_ := Aside0.mk (hbox); have n3_ := bz hg; have n4_ := bz hg; have n5_ := Aside0.mk ((by rw [hg]; exact Nat.ne_of_lt (blk_lt (bx BK253.out)) : gb253 ≠ gb254)); have n6_ := Aside0.mk ((by rw [hg]; exact Nat.ne_of_gt (blk_lt (bx BK253.out)) : gb254 ≠ gb253)); clear BK253; clear HB; have BK253 := n0_; have HB := n1_; have BK254 := n2_; have GW254 := n3_; have GE254 := n4_; have NB253_254 := n5_; have NB254_253 := n6_; clear n0_ n1_ n2_ n3_ n4_ n5_ n6_; clear hb hbox hg; have hnb13 := NB253_254.out; have hnc13 := NB254_253.out; have hcz14_0 : ∀ i, w12.cell? ⟨gb253, i, none⟩ = _ := blk_cell BK253.out; have hfz14_0 := blk_frozen BK253.out; have hcz15_0 : ∀ i, w12.cell? ⟨gb254, i, none⟩ = _ := blk_cell BK254.out; have hfz15_0 := blk_frozen BK254.out))
        go_ret
        exact ⟨rr, bl⟩
      · rw [if_neg c10] at H
        have c10b0 : (a0_2.toList == a1_2.toList) = false := beq_eq_false_iff_ne.mpr c10
        have c10b1 : (a0_2.toList != a1_2.toList) = true := bne_iff_ne.mpr c10
        obtain rfl := Option.some.inj H
        go_enter Try.func30, Try.ntmps30
        go_wp2_with (first | ((with_reducible refine gate_dst (N := 2) rfl ?_); refine box_event ?hg (N := 2) ?hd (cs := #[.bool a0_0, .int .i64 a0_1, .string a0_2]) (t := 48) ?hr ?_; (case hd => rfl); (case hg => rfl); (case hr => first | (go_simp; done) | (go_simp; rfl)); intro gb253 hg w16 hbox hb; have n0_ := bs HB hb; have n1_ := Aside0.mk (hbox); have n2_ := bz hg; have n3_ := bz hg; clear HB; have HB := n0_; have BK253 := n1_; have GW253 := n2_; have GE253 := n3_; clear n0_ n1_ n2_ n3_; clear hb hbox hg) | ((with_reducible refine gate_dst (N := 3) rfl ?_); refine box_event ?hg (N := 3) ?hd (cs := #[.bool a1_0, .int .i64 a1_1, .string a1_2]) (t := 48) ?hr ?_; (case hd => rfl); (case hg => rfl); (case hr => first | (go_simp; done) | (go_simp; rfl)); intro gb254 hg w17 hbox hb; have n0_ := Aside0.mk (blk_below (bx BK253.out) hb); have n1_ := bs HB hb; have n2_ := Aside0.mk (hbox); have n3_ := bz hg; have n4_ := bz hg; have n5_ := Aside0.mk ((by rw [hg]; exact Nat.ne_of_lt (blk_lt (bx BK253.out)) : gb253 ≠ gb254)); have n6_ := Aside0.mk ((by rw [hg]; exact Nat.ne_of_gt (blk_lt (bx BK253.out)) : gb254 ≠ gb253)); clear BK253; clear HB; have BK253 := n0_; have HB := n1_; have BK254 := n2_; have GW254 := n3_; have GE254 := n4_; have NB253_254 := n5_; have NB254_253 := n6_; clear n0_ n1_ n2_ n3_ n4_ n5_ n6_; clear hb hbox hg; have hnb18 := NB253_254.out; have hnc18 := NB254_253.out; have hcz19_0 : ∀ i, w17.cell? ⟨gb253, i, none⟩ = _ := blk_cell BK253.out; have hfz19_0 := blk_frozen BK253.out; have hcz20_0 : ∀ i, w17.cell? ⟨gb254, i, none⟩ = _ := blk_cell BK254.out; have hfz20_0 := blk_frozen BK254.out))
        go_ret
        exact ⟨rr, bl⟩
    · rw [if_neg c9] at H
      have c9b0 : (a0_1 == a1_1) = false := beq_eq_false_iff_ne.mpr c9
      have c9b1 : (a0_1 != a1_1) = true := bne_iff_ne.mpr c9
      obtain rfl := Option.some.inj H
      go_enter Try.func30, Try.ntmps30
      go_wp2_with (first | ((with_reducible refine gate_dst (N := 2) rfl ?_); refine box_event ?hg (N := 2) ?hd (cs := #[.bool a0_0, .int .i64 a0_1, .string a0_2]) (t := 48) ?hr ?_; (case hd => rfl); (case hg => rfl); (case hr => first | (go_simp; done) | (go_simp; rfl)); intro gb253 hg w21 hbox hb; have n0_ := bs HB hb; have n1_ := Aside0.mk (hbox); have n2_ := bz hg; have n3_ := bz hg; clear HB; have HB := n0_; have BK253 := n1_; have GW253 := n2_; have GE253 := n3_; clear n0_ n1_ n2_ n3_; clear hb hbox hg) | ((with_reducible refine gate_dst (N := 3) rfl ?_); refine box_event ?hg (N := 3) ?hd (cs := #[.bool a1_0, .int .i64 a1_1, .string a1_2]) (t := 48) ?hr ?_; (case hd => rfl); (case hg => rfl); (case hr => first | (go_simp; done) | (go_simp; rfl)); intro gb254 hg w22 hbox hb; have n0_ := Aside0.mk (blk_below (bx BK253.out) hb); have n1_ := bs HB hb; have n2_ := Aside0.mk (hbox); have n3_ := bz hg; have n4_ := bz hg; have n5_ := Aside0.mk ((by rw [hg]; exact Nat.ne_of_lt (blk_lt (bx BK253.out)) : gb253 ≠ gb254)); have n6_ := Aside0.mk ((by rw [hg]; exact Nat.ne_of_gt (blk_lt (bx BK253.out)) : gb254 ≠ gb253)); clear BK253; clear HB; have BK253 := n0_; have HB := n1_; have BK254 := n2_; have GW254 := n3_; have GE254 := n4_; have NB253_254 := n5_; have NB254_253 := n6_; clear n0_ n1_ n2_ n3_ n4_ n5_ n6_; clear hb hbox hg; have hnb23 := NB253_254.out; have hnc23 := NB254_253.out; have hcz24_0 : ∀ i, w22.cell? ⟨gb253, i, none⟩ = _ := blk_cell BK253.out; have hfz24_0 := blk_frozen BK253.out; have hcz25_0 : ∀ i, w22.cell? ⟨gb254, i, none⟩ = _ := blk_cell BK254.out; have hfz25_0 := blk_frozen BK254.out))
      go_ret
      exact ⟨rr, bl⟩

/-! ### laws_FnExactSkipPart: function 5 -/
def laws_FnExactSkipPart.f (k : Nat) (a0 : Int) (a1_0 : Int) (a1_1 : Bool) (a1_2 : Bool) (a1_3 : Bool) : Option (Bool) := (laws_toPar.f a1_0 a1_1 a1_2 a1_3).bind fun bt256 => ((spec_SkipPart.f k a0 bt256.1 bt256.2.1 bt256.2.2.1 bt256.2.2.2).bind fun bt260 => ((laws_toPar.f a1_0 a1_1 a1_2 a1_3).bind fun bt265 => ((impl_SkipPart.f k a0 bt265.1 bt265.2.1 bt265.2.2.1 bt265.2.2.2).bind fun bt269 => ((laws_eqPart.f bt269.1 bt269.2.1 bt269.2.2.1 bt260.1 bt260.2.1 bt260.2.2.1).bind fun t274 => (if t274 = true then (if (bt269.2.2.2 != bt260.2.2.2) = true then (some false) else (some true)) else (some false))))))
theorem laws_FnExactSkipPart.mono : ∀ a0 a1 a2 a3 a4 k, LeO (laws_FnExactSkipPart.f k a0 a1 a2 a3 a4) (laws_FnExactSkipPart.f (k + 1) a0 a1 a2 a3 a4) := by
  intro a0 a1 a2 a3 a4 k
  unfold laws_FnExactSkipPart.f
  repeat' first
      | (with_reducible exact impl_SkipPart.mono _ _ _ _ _ _)
      | (with_reducible exact spec_SkipPart.mono _ _ _ _ _ _)
      | (with_reducible exact LeO.refl _)
      | (with_reducible exact LeO.none _)
      | (with_reducible refine LeO.ite ?_ ?_)
      | (with_reducible refine LeO.bind ?_ (fun _ => ?_))
      | exact impl_SkipPart.mono _ _ _ _ _ _
      | exact spec_SkipPart.mono _ _ _ _ _ _
      | exact LeO.none _
      | refine LeO.ite ?_ ?_
      | refine LeO.bind ?_ (fun _ => ?_)
set_option maxHeartbeats 8000000 in
set_option maxRecDepth 100000 in
theorem laws_FnExactSkipPart.calls (k : Nat) (a0 : Int) (a1_0 : Int) (a1_1 : Bool) (a1_2 : Bool) (a1_3 : Bool) (r : Bool) (w : World) (h : laws_FnExactSkipPart.f k a0 a1_0 a1_1 a1_2 a1_3 = some r) (hr_ : Aside0 (r = true)) :
    Calls Try.prog 5 #[.int .i64 a0, .agg #[.int .i64 a1_0, .bool a1_1, .bool a1_2, .bool a1_3]] w fun e w' => e = .returned (.bool r) ∧ Below w.heap.size w w' := by
  have hu46 := Try.underlying46
  have hu48 := Try.underlying48
  have HB := Aside0.mk (Below.refl w.heap.size w)
  have H : ((laws_toPar.f a1_0 a1_1 a1_2 a1_3).bind fun bt256 => ((spec_SkipPart.f k a0 bt256.1 bt256.2.1 bt256.2.2.1 bt256.2.2.2).bind fun bt260 => ((laws_toPar.f a1_0 a1_1 a1_2 a1_3).bind fun bt265 => ((impl_SkipPart.f k a0 bt265.1 bt265.2.1 bt265.2.2.1 bt265.2.2.2).bind fun bt269 => ((laws_eqPart.f bt269.1 bt269.2.1 bt269.2.2.1 bt260.1 bt260.2.1 bt260.2.2.1).bind fun t274 => (if t274 = true then (if (bt269.2.2.2 != bt260.2.2.2) = true then (some false) else (some true)) else (some false))))))) = some r := h
  clear h
  replace H := Option.bind_eq_some_iff.mp H
  obtain ⟨⟨t256, t257, t258, t259⟩, A30, H⟩ := H
  (try dsimp only at H)
  have A3 := Aside0.mk A30
  clear A30
  replace H := Option.bind_eq_some_iff.mp H
  obtain ⟨⟨t260, t261, t262, t263⟩, A40, H⟩ := H
  (try dsimp only at H)
  have A4 := Aside0.mk A40
  clear A40
  replace H := Option.bind_eq_some_iff.mp H
  obtain ⟨⟨t265, t266, t267, t268⟩, A50, H⟩ := H
  (try dsimp only at H)
  have A5 := Aside0.mk A50
  clear A50
  replace H := Option.bind_eq_some_iff.mp H
  obtain ⟨⟨t269, t270, t271, t272⟩, A60, H⟩ := H
  (try dsimp only at H)
  have A6 := Aside0.mk A60
  clear A60
  replace H := Option.bind_eq_some_iff.mp H
  obtain ⟨t274, A70, H⟩ := H
  (try dsimp only at H)
  have A7 := Aside0.mk A70
  clear A70
  by_cases c8 : t274 = true
  · subst c8
    rw [if_pos rfl] at H
    by_cases c9 : (t272 != t263) = true
    · rw [if_pos c9] at H
      have c9b0 : (t272 != t263) = true := c9
      (try (have c9b1 : decide (t272 = t263) = false := by simpa using c9))
      (try (have c9b2 : (t272 == t263) = false := by simpa using c9))
      (try (have c9b3 : ¬ (t272 = t263) := by simpa using c9))
      clear c9
      obtain rfl := Option.some.inj H
      exact absurd hr_.out (by decide)
    · rw [if_neg c9] at H
      have c9b0 : (t272 != t263) = false := by simpa using c9
      (try (have c9b1 : decide (t272 = t263) = true := by simpa using c9))
      (try (have c9b2 : (t272 == t263) = true := by simpa using c9))
      clear c9
      obtain rfl := Option.some.inj H
      go_enter Try.func5, Try.ntmps5
      go_wp2_with (first | ((with_reducible refine gate_dst (N := 3) rfl ?_); refine box_event ?hg (N := 3) ?hd (cs := #[.int .i64 a1_0, .bool a1_1, .bool a1_2, .bool a1_3]) (t := 46) ?hr ?_; (case hd => rfl); (case hg => rfl); (case hr => first | (go_simp; done) | (go_simp; rfl)); intro gb255 hg w10 hbox hb; have n0_ := bs HB hb; have n1_ := Aside0.mk (hbox); have n2_ := bz hg; have n3_ := bz hg; clear HB; have HB := n0_; have BK255 := n1_; have GW255 := n2_; have GE255 := n3_; clear n0_ n1_ n2_ n3_; clear hb hbox hg; have hcz11_0 : ∀ i, w10.cell? ⟨gb255, i, none⟩ = _ := blk_cell BK255.out; have hfz11_0 := blk_frozen BK255.out) | ((with_reducible refine gate_callee (f := 28) rfl ?_); refine goesL_ (some 12) rfl rfl Try.func28 (by kernel_rfl) rfl #[.agg #[.int .i64 a1_0, .bool a1_1, .bool a1_2, .bool a1_3]] rfl (by (try simp only [List.map_toArray, List.map_cons, List.map_nil]); first | done | rfl | (simp only [List.length_drop, List.length_take]; rfl)) ?_; (with_reducible refine (laws_toPar.calls a1_0 a1_1 a1_2 a1_3 t256 t257 t258 t259 _ A3.out).mono ?_); rintro e w12 ⟨rfl, hb⟩; refine ⟨_, rfl, ?_⟩; have n0_ := Aside0.mk (blk_below (bx BK255.out) hb); have n1_ := bs HB hb; clear BK255; clear HB; have BK255 := n0_; have HB := n1_; clear n0_ n1_; (try clear hb); (try clear hb2); (try clear hk); (try clear hi)) | ((with_reducible refine gate_callee (f := 27) rfl ?_); refine goesL_ (some 13) rfl rfl Try.func27 (by kernel_rfl) rfl #[.int .i64 a0, .agg #[.int .i64 t256, .bool t257, .bool t258, .bool t259]] rfl (by (try simp only [List.map_toArray, List.map_cons, List.map_nil]); first | done | rfl | (simp only [List.length_drop, List.length_take]; rfl)) ?_; (with_reducible refine (spec_SkipPart.calls k a0 t256 t257 t258 t259 t260 t261 t262 t263 _ A4.out).mono ?_); rintro e w13 ⟨rfl, hb⟩; refine ⟨_, rfl, ?_⟩; have n0_ := Aside0.mk (blk_below (bx BK255.out) hb); have n1_ := bs HB hb; clear BK255; clear HB; have BK255 := n0_; have HB := n1_; clear n0_ n1_; (try clear hb); (try clear hb2); (try clear hk); (try clear hi)) | ((with_reducible refine gate_dst (N := 5) rfl ?_); refine box_event ?hg (N := 5) ?hd (cs := #[.bool false, .int .i64 0, .string (⟨#[]⟩ : ByteArray)]) (t := 48) ?hr ?_; (case hd => rfl); (case hg => rfl); (case hr => first | (go_simp; done) | (go_simp; rfl)); intro gb264 hg w14 hbox hb; have n0_ := Aside0.mk (blk_below (bx BK255.out) hb); have n1_ := bs HB hb; have n2_ := Aside0.mk (hbox); have n3_ := bz hg; have n4_ := bz hg; have n5_ := Aside0.mk ((by rw [hg]; exact Nat.ne_of_lt (blk_lt (bx BK255.out)) : gb255 ≠ gb264)); have n6_ := Aside0.mk ((by rw [hg]; exact Nat.ne_of_gt (blk_lt (bx BK255.out)) : gb264 ≠ gb255)); clear BK255; clear HB; have BK255 := n0_; have HB := n1_; have BK264 := n2_; have GW264 := n3_; have GE264 := n4_; have NB255_264 := n5_; have NB264_255 := n6_; clear n0_ n1_ n2_ n3_ n4_ n5_ n6_; clear hb hbox hg; have hnb15 := NB264_255.out; have hnc15 := NB255_264.out; have hcz16_0 : ∀ i, w14.cell? ⟨gb264, i, none⟩ = _ := blk_cell BK264.out; have hfz16_0 := blk_frozen BK264.out; have hcz17_0 : ∀ i, w14.cell? ⟨gb255, i, none⟩ = _ := blk_cell BK255.out; have hfz17_0 := blk_frozen BK255.out) | ((with_reducible refine gate_callee (f := 28) rfl ?_); refine goesL_ (some 19) rfl rfl Try.func28 (by kernel_rfl) rfl #[.agg #[.int .i64 a1_0, .bool a1_1, .bool a1_2, .bool a1_3]] rfl (by (try simp only [List.map_toArray, List.map_cons, List.map_nil]); first | done | rfl | (simp only [List.length_drop, List.length_take]; rfl)) ?_; (with_reducible refine (laws_toPar.calls a1_0 a1_1 a1_2 a1_3 t265 t266 t267 t268 _ A5.out).mono ?_); rintro e w18 ⟨rfl, hb⟩; refine ⟨_, rfl, ?_⟩; have n0_ := Aside0.mk (blk_below (g := gb255) (o := .cells #[.int .i64 a1_0, .bool a1_1, .bool a1_2, .bool a1_3] 46 (0, 0)) (by (with_reducible repeat (first | refine blk_drewN ?_ _ | refine blk_drew ?_ | refine blk_alloc ?_ _)); refine blk_far ?_ NB255_264.out _; (with_reducible repeat (first | refine blk_drewN ?_ _ | refine blk_drew ?_ | refine blk_alloc ?_ _)); refine blk_far ?_ NB255_264.out _; (with_reducible repeat (first | refine blk_drewN ?_ _ | refine blk_drew ?_ | refine blk_alloc ?_ _)); refine blk_far ?_ NB255_264.out _; (with_reducible repeat (first | refine blk_drewN ?_ _ | refine blk_drew ?_ | refine blk_alloc ?_ _)); exact BK255.out) hb); have n1_ := Aside0.mk (blk_below (g := gb264) (o := .cells #[.bool t260, .int .i64 t261, .string t262] 48 (0, 0)) (by (with_reducible repeat (first | refine blk_drewN ?_ _ | refine blk_drew ?_ | refine blk_alloc ?_ _)); refine blk_put (cs := #[.bool t260, .int .i64 t261, .string (⟨#[]⟩ : ByteArray)]) ?_ 2 _ rfl; (with_reducible repeat (first | refine blk_drewN ?_ _ | refine blk_drew ?_ | refine blk_alloc ?_ _)); refine blk_put (cs := #[.bool t260, .int .i64 0, .string (⟨#[]⟩ : ByteArray)]) ?_ 1 _ rfl; (with_reducible repeat (first | refine blk_drewN ?_ _ | refine blk_drew ?_ | refine blk_alloc ?_ _)); refine blk_put (cs := #[.bool false, .int .i64 0, .string (⟨#[]⟩ : ByteArray)]) ?_ 0 _ rfl; (with_reducible repeat (first | refine blk_drewN ?_ _ | refine blk_drew ?_ | refine blk_alloc ?_ _)); exact BK264.out) hb); have n2_ := bs HB hb; clear BK255; clear BK264; clear HB; have BK255 := n0_; have BK264 := n1_; have HB := n2_; clear n0_ n1_ n2_; (try clear hb); (try clear hb2); (try clear hk); (try clear hi)) | ((with_reducible refine gate_callee (f := 29) rfl ?_); refine goesL_ (some 20) rfl rfl Try.func29 (by kernel_rfl) rfl #[.int .i64 a0, .agg #[.int .i64 t265, .bool t266, .bool t267, .bool t268]] rfl (by (try simp only [List.map_toArray, List.map_cons, List.map_nil]); first | done | rfl | (simp only [List.length_drop, List.length_take]; rfl)) ?_; (with_reducible refine (impl_SkipPart.calls k a0 t265 t266 t267 t268 t269 t270 t271 t272 _ A6.out).mono ?_); rintro e w19 ⟨rfl, hb⟩; refine ⟨_, rfl, ?_⟩; have n0_ := Aside0.mk (blk_below (bx BK255.out) hb); have n1_ := Aside0.mk (blk_below (bx BK264.out) hb); have n2_ := bs HB hb; clear BK255; clear BK264; clear HB; have BK255 := n0_; have BK264 := n1_; have HB := n2_; clear n0_ n1_ n2_; (try clear hb); (try clear hb2); (try clear hk); (try clear hi)) | ((with_reducible refine gate_dst (N := 7) rfl ?_); refine box_event ?hg (N := 7) ?hd (cs := #[.bool false, .int .i64 0, .string (⟨#[]⟩ : ByteArray)]) (t := 48) ?hr ?_; (case hd => rfl); (case hg => rfl); (case hr => first | (go_simp; done) | (go_simp; rfl)); intro gb273 hg w20 hbox hb; have n0_ := Aside0.mk (blk_below (bx BK255.out) hb); have n1_ := Aside0.mk (blk_below (bx BK264.out) hb); have n2_ := bs HB hb; have n3_ := Aside0.mk (hbox); have n4_ := bz hg; have n5_ := bz hg; have n6_ := Aside0.mk ((by rw [hg]; exact Nat.ne_of_lt (blk_lt (bx BK255.out)) : gb255 ≠ gb273)); have n7_ := Aside0.mk ((by rw [hg]; exact Nat.ne_of_gt (blk_lt (bx BK255.out)) : gb273 ≠ gb255)); have n8_ := Aside0.mk ((by rw [hg]; exact Nat.ne_of_lt (blk_lt (bx BK264.out)) : gb264 ≠ gb273)); have n9_ := Aside0.mk ((by rw [hg]; exact Nat.ne_of_gt (blk_lt (bx BK264.out)) : gb273 ≠ gb264)); clear BK255; clear BK264; clear HB; have BK255 := n0_; have BK264 := n1_; have HB := n2_; have BK273 := n3_; have GW273 := n4_; have GE273 := n5_; have NB255_273 := n6_; have NB273_255 := n7_; have NB264_273 := n8_; have NB273_264 := n9_; clear n0_ n1_ n2_ n3_ n4_ n5_ n6_ n7_ n8_ n9_; clear hb hbox hg; have hnb21 := NB273_255.out; have hnc21 := NB255_273.out; have hnb22 := NB273_264.out; have hnc22 := NB264_273.out; have hcz23_0 : ∀ i, w20.cell? ⟨gb273, i, none⟩ = _ := blk_cell BK273.out; have hfz23_0 := blk_frozen BK273.out; have hcz24_0 : ∀ i, w20.cell? ⟨gb264, i, none⟩ = _ := blk_cell BK264.out; have hfz24_0 := blk_frozen BK264.out) | ((with_reducible refine gate_callee (f := 30) rfl ?_); refine goesL_ (some 25) rfl rfl Try.func30 (by kernel_rfl) rfl #[.agg #[.bool t269, .int .i64 t270, .string t271], .agg #[.bool t260, .int .i64 t261, .string t262]] rfl (by (try simp only [List.map_toArray, List.map_cons, List.map_nil]); first | done | rfl | (simp only [List.length_drop, List.length_take]; rfl)) ?_; (with_reducible refine (laws_eqPart.calls t269 t270 t271 t260 t261 t262 true _ A7.out).mono ?_); rintro e w25 ⟨rfl, hb⟩; refine ⟨_, rfl, ?_⟩; have n0_ := Aside0.mk (blk_below (g := gb255) (o := .cells #[.int .i64 a1_0, .bool a1_1, .bool a1_2, .bool a1_3] 46 (0, 0)) (by (with_reducible repeat (first | refine blk_drewN ?_ _ | refine blk_drew ?_ | refine blk_alloc ?_ _)); refine blk_far ?_ NB255_273.out _; (with_reducible repeat (first | refine blk_drewN ?_ _ | refine blk_drew ?_ | refine blk_alloc ?_ _)); refine blk_far ?_ NB255_273.out _; (with_reducible repeat (first | refine blk_drewN ?_ _ | refine blk_drew ?_ | refine blk_alloc ?_ _)); refine blk_far ?_ NB255_273.out _; (with_reducible repeat (first | refine blk_drewN ?_ _ | refine blk_drew ?_ | refine blk_alloc ?_ _)); exact BK255.out) hb); have n1_ := Aside0.mk (blk_below (g := gb264) (o := .cells #[.bool t260, .int .i64 t261, .string t262] 48 (0, 0)) (by (with_reducible repeat (first | refine blk_drewN ?_ _ | refine blk_drew ?_ | refine blk_alloc ?_ _)); refine blk_far ?_ NB264_273.out _; (with_reducible repeat (first | refine blk_drewN ?_ _ | refine blk_drew ?_ | refine blk_alloc ?_ _)); refine blk_far ?_ NB264_273.out _; (with_reducible repeat (first | refine blk_drewN ?_ _ | refine blk_drew ?_ | refine blk_alloc ?_ _)); refine blk_far ?_ NB264_273.out _; (with_reducible repeat (first | refine blk_drewN ?_ _ | refine blk_drew ?_ | refine blk_alloc ?_ _)); exact BK264.out) hb); have n2_ := Aside0.mk (blk_below (g := gb273) (o := .cells #[.bool t269, .int .i64 t270, .string t271] 48 (0, 0)) (by (with_reducible repeat (first | refine blk_drewN ?_ _ | refine blk_drew ?_ | refine blk_alloc ?_ _)); refine blk_put (cs := #[.bool t269, .int .i64 t270, .string (⟨#[]⟩ : ByteArray)]) ?_ 2 _ rfl; (with_reducible repeat (first | refine blk_drewN ?_ _ | refine blk_drew ?_ | refine blk_alloc ?_ _)); refine blk_put (cs := #[.bool t269, .int .i64 0, .string (⟨#[]⟩ : ByteArray)]) ?_ 1 _ rfl; (with_reducible repeat (first | refine blk_drewN ?_ _ | refine blk_drew ?_ | refine blk_alloc ?_ _)); refine blk_put (cs := #[.bool false, .int .i64 0, .string (⟨#[]⟩ : ByteArray)]) ?_ 0 _ rfl; (with_reducible repeat (first | refine blk_drewN ?_ _ | refine blk_drew ?_ | refine blk_alloc ?_ _)); exact BK273.out) hb); have n3_ := bs HB hb; clear BK255; clear BK264; clear BK273; clear HB; have BK255 := n0_; have BK264 := n1_; have BK273 := n2_; have HB := n3_; clear n0_ n1_ n2_ n3_; (try clear hb); (try clear hb2); (try clear hk); (try clear hi)))
      go_ret
      exact ⟨rr, bl⟩
  · replace c8 := Bool.eq_false_iff.mpr c8
    subst c8
    have H1 : (some false) = some r := by rw [if_neg (show ¬ (false = true) by decide)] at H; exact H
    clear H
    have H := H1
    clear H1
    obtain rfl := Option.some.inj H
    exact absurd hr_.out (by decide)

end Go.Proofs.Ytlfbcmhjopichaa.QFnExactSkipPart
