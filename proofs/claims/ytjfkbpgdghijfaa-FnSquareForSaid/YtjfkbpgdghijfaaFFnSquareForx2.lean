/- Contracts of the functions that the law FnSquareFor reaches, part 2: each comes to what its pure function tells. Written by a program of this session. Conditions: as each statement tells. -/
import Derived.Test.YtjfkbpgdghijfaaFFnSquareForx1
namespace Go.Proofs.Ytjfkbpgdghijfaa.A
open Go Go.Proofs Go.Proofs.YtjfkbpgdghijfaaAL Go.RowKit
set_option linter.unusedVariables false
set_option linter.unusedSimpArgs false
set_option maxRecDepth 100000
set_option maxHeartbeats 2000000
noncomputable section
def impl_SquareFor_res (r : (Square × (List Int) × Bool)) : AV := .tup [.agg [.sv (.int .i64 r.1.Kind), .sv (.int .i64 r.1.Mode), .sv (.int .i64 r.1.Dx), .sv (.int .i64 r.1.Dy), .own 16], .own 17, .sv (.bool r.2.2)]
def impl_SquareFor_obs (r : (Square × (List Int) × Bool)) : Objs := [(16, .ints .i64 r.1.Levels), (17, .ints .i64 r.2.1)]
theorem impl_SquareFor_ac {p0 : Pic} {p1 : Pic} {p2 : (List Int)} {p3 : Int} {p4 : Int} {p5 : Cond} {p6 : Int} {r : (Square × (List Int) × Bool)} (h : impl_SquareFor p0 p1 p2 p3 p4 p5 p6 = some r) : AC Try.prog 13 [.agg [.sv (.int .i64 p0.Wide), .sv (.int .i64 p0.High), .sv (.str p0.Dots)], .agg [.sv (.int .i64 p1.Wide), .sv (.int .i64 p1.High), .sv (.str p1.Dots)], .sv (.ints .i64 p2), .sv (.int .i64 p3), .sv (.int .i64 p4), .agg [.sv (.bool p5.Key), .sv (.int .i64 p5.Qp), .sv (.bool p5.Large), .sv (.bool p5.Exact)], .sv (.int .i64 p6)] [] (impl_SquareFor_res r) (impl_SquareFor_obs r) := by
 refine ac_of_body hT Try.func13 rfl fun C hC => ?_
 unfold impl_SquareFor at h
 refine s_reg ?_
 iterate 6 refine v_op hT hC rfl rfl rfl rfl trivial ?_
 refine Vc.nil ?_
 refine s_in ?_
 refine live [2, 3, 4, 6, 7, 8, 12, 14] [112, 128, 192, 224] (s' := [_, _, _, _, _, _, _, _]) (o' := [_, _, _, _]) rfl rfl ?_
 obtain ⟨v1, h1, h⟩ := bnd_some h
 refine aw_to ([(51, .sv (.bool v1))], []) ?_ ?_
 ·
  have h := h1
  refine aw_region ?_
  refine v_op hT hC rfl rfl rfl rfl trivial ?_
  obtain ⟨q2, hq, h⟩ := bnd_some h
  refine v_call hC [] rfl rfl rfl rfl Try.call50 (impl_PicOk_ac hq) rfl (by decide) trivial rfl (.inl rfl) rfl ?_
  iterate 2 refine v_op hT hC rfl rfl rfl rfl trivial ?_
  rcases sel_some h with ⟨hb1, h⟩ | ⟨hb1, h⟩
  ·
   iterate 3 refine v_on hT hC rfl rfl rfl rfl (congrArg Bool.not hb1) rfl rfl rfl trivial ?_
   obtain ⟨q3, hq, h⟩ := bnd_some h
   refine v_call_on hC [] rfl rfl rfl rfl (congrArg Bool.not hb1) rfl rfl rfl Try.call51 (impl_Pic_isSquare_ac hq) rfl (by decide) trivial rfl (.inl rfl) rfl ?_
   refine v_on hT hC rfl rfl rfl rfl (congrArg Bool.not hb1) rfl rfl rfl trivial ?_
   refine v_pick hC rfl rfl rfl (b := false) (congrArg Bool.not hb1) rfl rfl rfl trivial ?_
   refine v_op hT hC rfl rfl rfl rfl trivial ?_
   rcases sel_some h with ⟨hb2, h⟩ | ⟨hb2, h⟩
   ·
    refine v_on hT hC rfl rfl rfl rfl (congrArg Bool.not hb2) rfl rfl rfl trivial ?_
    obtain ⟨q4, hq, h⟩ := bnd_some h
    refine v_call_on hC [] rfl rfl rfl rfl (congrArg Bool.not hb2) rfl rfl rfl Try.call52 (impl_areIn_ac hq) rfl (by decide) trivial rfl (.inl rfl) rfl ?_
    refine v_on hT hC rfl rfl rfl rfl (congrArg Bool.not hb2) rfl rfl rfl trivial ?_
    refine v_pick hC rfl rfl rfl (b := false) (congrArg Bool.not hb2) rfl rfl rfl trivial ?_
    refine v_op hT hC rfl rfl rfl rfl trivial ?_
    rcases sel_some h with ⟨hb3, h⟩ | ⟨hb3, h⟩
    ·
     refine v_on hT hC rfl rfl rfl rfl (congrArg Bool.not hb3) rfl rfl rfl trivial ?_
     obtain ⟨q5, hq, h⟩ := bnd_some h
     refine v_call_on hC [] rfl rfl rfl rfl (congrArg Bool.not hb3) rfl rfl rfl Try.call27 (impl_CondOk_ac hq) rfl (by decide) trivial rfl (.inl rfl) rfl ?_
     refine v_on hT hC rfl rfl rfl rfl (congrArg Bool.not hb3) rfl rfl rfl trivial ?_
     refine v_pick hC rfl rfl rfl (b := false) (congrArg Bool.not hb3) rfl rfl rfl trivial ?_
     refine v_op hT hC rfl rfl rfl rfl trivial ?_
     rcases sel_some h with ⟨hb4, h⟩ | ⟨hb4, h⟩
     ·
      refine v_on hT hC rfl rfl rfl rfl (congrArg Bool.not hb4) rfl rfl rfl trivial ?_
      obtain ⟨q6, hq, h⟩ := bnd_some h
      refine v_call_on hC [] rfl rfl rfl rfl (congrArg Bool.not hb4) rfl rfl rfl Try.call53 (impl_within_ac hq) rfl (by decide) trivial rfl (.inl rfl) rfl ?_
      refine v_on hT hC rfl rfl rfl rfl (congrArg Bool.not hb4) rfl rfl rfl trivial ?_
      refine v_pick hC rfl rfl rfl (b := false) (congrArg Bool.not hb4) rfl rfl rfl trivial ?_
      refine Vc.nil ?_
      injection h with h
      subst h
      refine m_norm ?_
      apply w_conv hC []
      ·
       exact co
      ·
       rfl
      ·
       decide
      ·
       rfl
     ·
      refine v_off hC rfl rfl rfl rfl (congrArg Bool.not hb4) rfl rfl ?_
      refine v_off hC rfl rfl rfl rfl (congrArg Bool.not hb4) rfl rfl ?_
      refine v_off hC rfl rfl rfl rfl (congrArg Bool.not hb4) rfl rfl ?_
      refine v_pick hC rfl rfl rfl (b := true) (congrArg Bool.not hb4) rfl rfl rfl trivial ?_
      refine Vc.nil ?_
      injection h with h
      subst h
      refine m_norm ?_
      apply w_conv hC []
      ·
       exact co
      ·
       rfl
      ·
       decide
      ·
       rfl
    ·
     refine v_off hC rfl rfl rfl rfl (congrArg Bool.not hb3) rfl rfl ?_
     refine v_off hC rfl rfl rfl rfl (congrArg Bool.not hb3) rfl rfl ?_
     refine v_off hC rfl rfl rfl rfl (congrArg Bool.not hb3) rfl rfl ?_
     refine v_pick hC rfl rfl rfl (b := true) (congrArg Bool.not hb3) rfl rfl rfl trivial ?_
     refine v_op hT hC rfl rfl rfl rfl trivial ?_
     refine v_off hC rfl rfl rfl rfl rfl rfl rfl ?_
     refine v_off hC rfl rfl rfl rfl rfl rfl rfl ?_
     refine v_off hC rfl rfl rfl rfl rfl rfl rfl ?_
     refine v_op hT hC rfl rfl rfl rfl trivial ?_
     refine Vc.nil ?_
     injection h with h
     subst h
     refine m_norm ?_
     apply w_conv hC []
     ·
      exact co
     ·
      rfl
     ·
      decide
     ·
      rfl
   ·
    refine v_off hC rfl rfl rfl rfl (congrArg Bool.not hb2) rfl rfl ?_
    refine v_off hC rfl rfl rfl rfl (congrArg Bool.not hb2) rfl rfl ?_
    refine v_off hC rfl rfl rfl rfl (congrArg Bool.not hb2) rfl rfl ?_
    refine v_pick hC rfl rfl rfl (b := true) (congrArg Bool.not hb2) rfl rfl rfl trivial ?_
    refine v_op hT hC rfl rfl rfl rfl trivial ?_
    refine v_off hC rfl rfl rfl rfl rfl rfl rfl ?_
    refine v_off hC rfl rfl rfl rfl rfl rfl rfl ?_
    refine v_off hC rfl rfl rfl rfl rfl rfl rfl ?_
    iterate 2 refine v_op hT hC rfl rfl rfl rfl trivial ?_
    refine v_off hC rfl rfl rfl rfl rfl rfl rfl ?_
    refine v_off hC rfl rfl rfl rfl rfl rfl rfl ?_
    refine v_off hC rfl rfl rfl rfl rfl rfl rfl ?_
    refine v_op hT hC rfl rfl rfl rfl trivial ?_
    refine Vc.nil ?_
    injection h with h
    subst h
    refine m_norm ?_
    apply w_conv hC []
    ·
     exact co
    ·
     rfl
    ·
     decide
    ·
     rfl
  ·
   refine v_off hC rfl rfl rfl rfl (congrArg Bool.not hb1) rfl rfl ?_
   refine v_off hC rfl rfl rfl rfl (congrArg Bool.not hb1) rfl rfl ?_
   refine v_off hC rfl rfl rfl rfl (congrArg Bool.not hb1) rfl rfl ?_
   refine v_off hC rfl rfl rfl rfl (congrArg Bool.not hb1) rfl rfl ?_
   refine v_off hC rfl rfl rfl rfl (congrArg Bool.not hb1) rfl rfl ?_
   refine v_pick hC rfl rfl rfl (b := true) (congrArg Bool.not hb1) rfl rfl rfl trivial ?_
   refine v_op hT hC rfl rfl rfl rfl trivial ?_
   refine v_off hC rfl rfl rfl rfl rfl rfl rfl ?_
   refine v_off hC rfl rfl rfl rfl rfl rfl rfl ?_
   refine v_off hC rfl rfl rfl rfl rfl rfl rfl ?_
   iterate 2 refine v_op hT hC rfl rfl rfl rfl trivial ?_
   refine v_off hC rfl rfl rfl rfl rfl rfl rfl ?_
   refine v_off hC rfl rfl rfl rfl rfl rfl rfl ?_
   refine v_off hC rfl rfl rfl rfl rfl rfl rfl ?_
   iterate 2 refine v_op hT hC rfl rfl rfl rfl trivial ?_
   refine v_off hC rfl rfl rfl rfl rfl rfl rfl ?_
   refine v_off hC rfl rfl rfl rfl rfl rfl rfl ?_
   refine v_off hC rfl rfl rfl rfl rfl rfl rfl ?_
   refine v_op hT hC rfl rfl rfl rfl trivial ?_
   refine Vc.nil ?_
   injection h with h
   subst h
   refine m_norm ?_
   apply w_conv hC []
   ·
    exact co
   ·
    rfl
   ·
    decide
   ·
    rfl
 rcases sel_some h with ⟨hb5, h⟩ | ⟨hb5, h⟩
 ·
  refine s_true rfl hb5 ?_
  refine s_reg ?_
  iterate 5 refine v_op hT hC rfl rfl rfl rfl trivial ?_
  refine Vc.nil ?_
  refine aw_ret ?_
  refine t_ret ?_
  injection h with h
  subst h
  refine ends (τ := ⟨[(14, .ptr 2000000 0), (15, .own 17), (16, .sv (.bool false))], [(16, some (.ints .i64 [])), (17, some (.ints .i64 ([] : List Int))), (2000000, some (.box [.sv (.int .i64 0), .sv (.int .i64 0), .sv (.int .i64 0), .sv (.int .i64 0), .own 16]))]⟩) ?_ rfl ⟨rfl, rfl, trivial⟩
  refine w_cell hC 224 4 2817 (.ints .i64 []) rfl rfl rfl rfl rfl trivial ?_
  apply w_conv hC [(16, 2817), (17, 848), (2000000, 224)]
  ·
   exact co
  ·
   rfl
  ·
   decide
  ·
   rfl
 ·
  refine s_false rfl hb5 ?_
  refine aw_skip ?_
  refine t_norm ?_
  refine s_in ?_
  refine live [2, 3, 4, 6, 7, 8, 12, 14] [112, 128, 192, 224] (s' := [_, _, _, _, _, _, _, _]) (o' := [_, _, _, _]) rfl rfl ?_
  obtain ⟨v7, h1, h⟩ := bnd_some h
  refine aw_to ([(75, .sv (.bool v7))], []) ?_ ?_
  ·
   have h := h1
   refine aw_region ?_
   iterate 4 refine v_op hT hC rfl rfl rfl rfl trivial ?_
   rcases sel_some h with ⟨hb6, h⟩ | ⟨hb6, h⟩
   ·
    refine v_off hC rfl rfl rfl rfl (congrArg Bool.not hb6) rfl rfl ?_
    refine v_off hC rfl rfl rfl rfl (congrArg Bool.not hb6) rfl rfl ?_
    refine v_off hC rfl rfl rfl rfl (congrArg Bool.not hb6) rfl rfl ?_
    refine v_off hC rfl rfl rfl rfl (congrArg Bool.not hb6) rfl rfl ?_
    iterate 5 refine v_dead hC rfl rfl rfl rfl rfl rfl ?_
    refine v_off hC rfl rfl rfl rfl (congrArg Bool.not hb6) rfl rfl ?_
    refine v_off hC rfl rfl rfl rfl (congrArg Bool.not hb6) rfl rfl ?_
    iterate 5 refine v_dead hC rfl rfl rfl rfl rfl rfl ?_
    refine v_off hC rfl rfl rfl rfl (congrArg Bool.not hb6) rfl rfl ?_
    refine v_pick hC rfl rfl rfl (b := false) (congrArg Bool.not hb6) rfl rfl rfl trivial ?_
    refine Vc.nil ?_
    injection h with h
    subst h
    refine m_norm ?_
    apply w_conv hC []
    ·
     exact co
    ·
     rfl
    ·
     decide
    ·
     rfl
   ·
    refine v_on hT hC rfl rfl rfl rfl (congrArg Bool.not hb6) rfl rfl rfl trivial ?_
    obtain ⟨q8, hq, h⟩ := bnd_some h
    refine v_call_on hC [] rfl rfl rfl rfl (congrArg Bool.not hb6) rfl rfl rfl Try.call50 (impl_PicOk_ac hq) rfl (by decide) trivial rfl (.inl rfl) rfl ?_
    iterate 2 refine v_on hT hC rfl rfl rfl rfl (congrArg Bool.not hb6) rfl rfl rfl trivial ?_
    rcases sel_some h with ⟨hb7, h⟩ | ⟨hb7, h⟩
    ·
     iterate 5 refine v_on hT hC rfl rfl rfl rfl (congrArg Bool.not hb7) rfl rfl rfl trivial ?_
     refine v_pick_on hC rfl rfl rfl rfl (congrArg Bool.not hb6) rfl rfl (b := false) (congrArg Bool.not hb7) rfl rfl rfl trivial ?_
     refine v_on hT hC rfl rfl rfl rfl (congrArg Bool.not hb6) rfl rfl rfl trivial ?_
     rcases sel_some h with ⟨hb8, h⟩ | ⟨hb8, h⟩
     ·
      refine v_off hC rfl rfl rfl rfl hb8 rfl rfl ?_
      refine v_off hC rfl rfl rfl rfl hb8 rfl rfl ?_
      refine v_off hC rfl rfl rfl rfl hb8 rfl rfl ?_
      refine v_off hC rfl rfl rfl rfl hb8 rfl rfl ?_
      refine v_off hC rfl rfl rfl rfl hb8 rfl rfl ?_
      refine v_pick_on hC rfl rfl rfl rfl (congrArg Bool.not hb6) rfl rfl (b := true) hb8 rfl rfl rfl trivial ?_
      refine v_pick hC rfl rfl rfl (b := true) (congrArg Bool.not hb6) rfl rfl rfl trivial ?_
      refine Vc.nil ?_
      injection h with h
      subst h
      refine m_norm ?_
      apply w_conv hC []
      ·
       exact co
      ·
       rfl
      ·
       decide
      ·
       rfl
     ·
      iterate 5 refine v_on hT hC rfl rfl rfl rfl hb8 rfl rfl rfl trivial ?_
      refine v_pick_on hC rfl rfl rfl rfl (congrArg Bool.not hb6) rfl rfl (b := false) hb8 rfl rfl rfl trivial ?_
      refine v_pick hC rfl rfl rfl (b := true) (congrArg Bool.not hb6) rfl rfl rfl trivial ?_
      refine Vc.nil ?_
      injection h with h
      subst h
      refine m_norm ?_
      apply w_conv hC []
      ·
       exact co
      ·
       rfl
      ·
       decide
      ·
       rfl
    ·
     refine v_off hC rfl rfl rfl rfl (congrArg Bool.not hb7) rfl rfl ?_
     refine v_off hC rfl rfl rfl rfl (congrArg Bool.not hb7) rfl rfl ?_
     refine v_off hC rfl rfl rfl rfl (congrArg Bool.not hb7) rfl rfl ?_
     refine v_off hC rfl rfl rfl rfl (congrArg Bool.not hb7) rfl rfl ?_
     refine v_off hC rfl rfl rfl rfl (congrArg Bool.not hb7) rfl rfl ?_
     refine v_pick_on hC rfl rfl rfl rfl (congrArg Bool.not hb6) rfl rfl (b := true) (congrArg Bool.not hb7) rfl rfl rfl trivial ?_
     refine v_on hT hC rfl rfl rfl rfl (congrArg Bool.not hb6) rfl rfl rfl trivial ?_
     refine v_off hC rfl rfl rfl rfl rfl rfl rfl ?_
     refine v_off hC rfl rfl rfl rfl rfl rfl rfl ?_
     refine v_off hC rfl rfl rfl rfl rfl rfl rfl ?_
     refine v_off hC rfl rfl rfl rfl rfl rfl rfl ?_
     refine v_off hC rfl rfl rfl rfl rfl rfl rfl ?_
     refine v_pick_on hC rfl rfl rfl rfl (congrArg Bool.not hb6) rfl rfl (b := true) rfl rfl rfl rfl trivial ?_
     refine v_pick hC rfl rfl rfl (b := true) (congrArg Bool.not hb6) rfl rfl rfl trivial ?_
     refine Vc.nil ?_
     injection h with h
     subst h
     refine m_norm ?_
     apply w_conv hC []
     ·
      exact co
     ·
      rfl
     ·
      decide
     ·
      rfl
  rcases sel_some h with ⟨hb9, h⟩ | ⟨hb9, h⟩
  ·
   refine s_true rfl hb9 ?_
   refine s_reg ?_
   iterate 5 refine v_op hT hC rfl rfl rfl rfl trivial ?_
   refine Vc.nil ?_
   refine aw_ret ?_
   refine t_ret ?_
   injection h with h
   subst h
   refine ends (τ := ⟨[(14, .ptr 2000000 0), (15, .own 17), (16, .sv (.bool false))], [(16, some (.ints .i64 [])), (17, some (.ints .i64 ([] : List Int))), (2000000, some (.box [.sv (.int .i64 0), .sv (.int .i64 0), .sv (.int .i64 0), .sv (.int .i64 0), .own 16]))]⟩) ?_ rfl ⟨rfl, rfl, trivial⟩
   refine w_cell hC 224 4 2818 (.ints .i64 []) rfl rfl rfl rfl rfl trivial ?_
   apply w_conv hC [(16, 2818), (17, 1232), (2000000, 224)]
   ·
    exact co
   ·
    rfl
   ·
    decide
   ·
    rfl
  ·
   refine s_false rfl hb9 ?_
   refine aw_skip ?_
   refine t_norm ?_
   refine s_reg ?_
   iterate 3 refine v_op hT hC rfl rfl rfl rfl trivial ?_
   obtain ⟨q9, hq, h⟩ := bnd_some h
   refine v_call hC [(16, 1312), (17, 1313)] rfl rfl rfl rfl Try.call54 (impl_EdgesOf_ac hq) rfl (by decide) trivial rfl (.inl rfl) rfl ?_
   iterate 6 refine v_op hT hC rfl rfl rfl rfl trivial ?_
   refine Vc.nil ?_
   refine s_reg ?_
   iterate 2 refine v_op hT hC rfl rfl rfl rfl trivial ?_
   obtain ⟨q10, hq, h⟩ := bnd_some h
   refine v_call hC [] rfl rfl rfl rfl Try.call55 (impl_BestGuess_ac hq) rfl (by decide) trivial rfl (.inr ⟨rfl, trivial⟩) rfl ?_
   iterate 5 refine v_op hT hC rfl rfl rfl rfl trivial ?_
   refine Vc.nil ?_
   refine s_reg ?_
   iterate 4 refine v_op hT hC rfl rfl rfl rfl trivial ?_
   refine Vc.nil ?_
   refine s_draw hm ?_
   iterate 3 refine v_op hT hC rfl rfl rfl rfl trivial ?_
   obtain ⟨q11, hq, h⟩ := bnd_some h
   refine v_call hC [(16, 1552)] rfl rfl rfl rfl Try.call58 (impl_GuessOf_ac hq) rfl (by decide) trivial rfl (.inr ⟨rfl, ⟨trivial, trivial⟩⟩) rfl ?_
   obtain ⟨q12, hq, h⟩ := bnd_some h
   refine v_call hC [(16, 1568)] rfl rfl rfl rfl Try.call57 (impl_lessened_ac hq) rfl (by decide) trivial rfl (.inr ⟨rfl, ⟨trivial, trivial⟩⟩) rfl ?_
   refine v_op hT hC rfl rfl rfl rfl trivial ?_
   obtain ⟨q13, hq, h⟩ := bnd_some h
   refine v_call hC [(16, 1600)] rfl rfl rfl rfl Try.call56 (impl_LevelsOf_ac hq) rfl (by decide) trivial rfl (.inr ⟨rfl, ⟨trivial, trivial⟩⟩) rfl ?_
   iterate 5 refine v_op hT hC rfl rfl rfl rfl trivial ?_
   refine Vc.nil ⟨by kernel_rfl, ?_⟩
   refine live [2, 3, 4, 6, 7, 8, 12, 14, 20, 21] [112, 128, 192, 224, 336, 1600] (s' := [_, _, _, _, _, _, _, _, _, _]) (o' := [_, _, _, _, _, _]) rfl rfl ?_
   obtain ⟨v14, h1, h⟩ := bnd_some h
   refine aw_to ([(2, .any), (6, .any), (20, .any)], [(336, some (.box [.sv (.int .i64 v14.1), .sv (.int .i64 v14.2.1), .sv (.int .i64 v14.2.2.1), .sv (.int .i64 v14.2.2.2.1), .own 1600])), (1600, some (.ints .i64 v14.2.2.2.2))]) ?_ ?_
   ·
    have h := h1
    refine s_reg ?_
    iterate 3 refine v_op hT hC rfl rfl rfl rfl trivial ?_
    refine Vc.nil ?_
    rcases sel_some h with ⟨hb10, h⟩ | ⟨hb10, h⟩
    ·
     refine s_true rfl hb10 ?_
     refine s_reg ?_
     iterate 4 refine v_op hT hC rfl rfl rfl rfl trivial ?_
     obtain ⟨q15, hq, h⟩ := bnd_some h
     refine v_call hC [(16, 1776)] rfl rfl rfl rfl Try.call60 (impl_Pic_block_ac hq) rfl (by decide) trivial rfl (.inl rfl) rfl ?_
     obtain ⟨q16, hq, h⟩ := bnd_some h
     refine v_call hC [] rfl rfl rfl rfl Try.call59 (impl_gap_ac hq) rfl (by decide) trivial rfl (.inr ⟨rfl, trivial⟩) rfl ?_
     refine v_op hT hC rfl rfl rfl rfl trivial ?_
     refine Vc.nil ?_
     rcases sel_some h with ⟨hb11, h⟩ | ⟨hb11, h⟩
     ·
      refine s_true rfl hb11 ?_
      refine aw_region ?_
      iterate 2 refine v_op hT hC rfl rfl rfl rfl trivial ?_
      refine Vc.nil ?_
      injection h with h
      subst h
      refine m_norm ?_
      refine w_cell hC 336 4 2819 (.ints .i64 []) rfl rfl rfl rfl rfl trivial ?_
      try dsimp only
      apply w_conv hC [(1600, 2819)]
      ·
       exact co
      ·
       rfl
      ·
       decide
      ·
       rfl
     ·
      refine s_false rfl hb11 ?_
      refine s_reg ?_
      iterate 5 refine v_op hT hC rfl rfl rfl rfl trivial ?_
      obtain ⟨q17, hq, h⟩ := bnd_some h
      refine v_call hC [] rfl rfl rfl rfl Try.call61 (impl_BestMove_ac hq) rfl (by decide) trivial rfl (.inl rfl) rfl ?_
      iterate 7 refine v_op hT hC rfl rfl rfl rfl trivial ?_
      refine Vc.nil ?_
      refine s_reg ?_
      iterate 3 refine v_op hT hC rfl rfl rfl rfl trivial ?_
      refine Vc.nil ?_
      rcases sel_some h with ⟨hb12, h⟩ | ⟨hb12, h⟩
      ·
       refine s_true rfl hb12 ?_
       refine s_reg ?_
       iterate 4 refine v_op hT hC rfl rfl rfl rfl trivial ?_
       refine Vc.nil ?_
       refine s_draw hm ?_
       iterate 8 refine v_op hT hC rfl rfl rfl rfl trivial ?_
       obtain ⟨q18, hq, h⟩ := bnd_some h
       refine v_call hC [(16, 2240)] rfl rfl rfl rfl Try.call60 (impl_Pic_block_ac hq) rfl (by decide) trivial rfl (.inl rfl) rfl ?_
       obtain ⟨q19, hq, h⟩ := bnd_some h
       refine v_call hC [(16, 2256)] rfl rfl rfl rfl Try.call57 (impl_lessened_ac hq) rfl (by decide) trivial rfl (.inr ⟨rfl, ⟨trivial, trivial⟩⟩) rfl ?_
       refine v_op hT hC rfl rfl rfl rfl trivial ?_
       obtain ⟨q20, hq, h⟩ := bnd_some h
       refine v_call hC [(16, 2288)] rfl rfl rfl rfl Try.call56 (impl_LevelsOf_ac hq) rfl (by decide) trivial rfl (.inr ⟨rfl, ⟨trivial, trivial⟩⟩) rfl ?_
       iterate 5 refine v_op hT hC rfl rfl rfl rfl trivial ?_
       refine Vc.nil ⟨by kernel_rfl, ?_⟩
       refine live [3, 4, 7, 8, 12, 14, 21, 22, 23] [112, 128, 192, 224, 336, 2288] (s' := [_, _, _, _, _, _, _, _, _]) (o' := [_, _, _, _, _, _]) rfl rfl ?_
       obtain ⟨v21, h1, h⟩ := bnd_some h
       refine aw_to ([(157, .sv (.bool v21)), (22, .any), (23, .any)], []) ?_ ?_
       ·
        have h := h1
        refine aw_region ?_
        iterate 3 refine v_op hT hC rfl rfl rfl rfl trivial ?_
        rcases sel_some h with ⟨hb13, h⟩ | ⟨hb13, h⟩
        ·
         iterate 2 refine v_on hT hC rfl rfl rfl rfl hb13 rfl rfl rfl trivial ?_
         refine v_pick hC rfl rfl rfl (b := true) hb13 rfl rfl rfl trivial ?_
         refine v_op hT hC rfl rfl rfl rfl trivial ?_
         rcases sel_some h with ⟨hb14, h⟩ | ⟨hb14, h⟩
         ·
          iterate 2 refine v_on hT hC rfl rfl rfl rfl hb14 rfl rfl rfl trivial ?_
          obtain ⟨q22, hq, h⟩ := bnd_some h
          refine v_call_on hC [] rfl rfl rfl rfl hb14 rfl rfl rfl Try.call52 (impl_areIn_ac hq) rfl (by decide) trivial rfl (.inr ⟨rfl, trivial⟩) rfl ?_
          refine v_pick hC rfl rfl rfl (b := true) hb14 rfl rfl rfl trivial ?_
          refine Vc.nil ?_
          injection h with h
          subst h
          refine m_norm ?_
          apply w_conv hC []
          ·
           exact co
          ·
           rfl
          ·
           decide
          ·
           rfl
         ·
          refine v_off hC rfl rfl rfl rfl hb14 rfl rfl ?_
          refine v_off hC rfl rfl rfl rfl hb14 rfl rfl ?_
          refine v_off hC rfl rfl rfl rfl hb14 rfl rfl ?_
          refine v_pick hC rfl rfl rfl (b := false) hb14 rfl rfl rfl trivial ?_
          refine Vc.nil ?_
          injection h with h
          subst h
          refine m_norm ?_
          apply w_conv hC []
          ·
           exact co
          ·
           rfl
          ·
           decide
          ·
           rfl
        ·
         refine v_off hC rfl rfl rfl rfl hb13 rfl rfl ?_
         refine v_off hC rfl rfl rfl rfl hb13 rfl rfl ?_
         refine v_pick hC rfl rfl rfl (b := false) hb13 rfl rfl rfl trivial ?_
         refine v_op hT hC rfl rfl rfl rfl trivial ?_
         refine v_off hC rfl rfl rfl rfl rfl rfl rfl ?_
         refine v_off hC rfl rfl rfl rfl rfl rfl rfl ?_
         refine v_off hC rfl rfl rfl rfl rfl rfl rfl ?_
         refine v_op hT hC rfl rfl rfl rfl trivial ?_
         refine Vc.nil ?_
         injection h with h
         subst h
         refine m_norm ?_
         apply w_conv hC []
         ·
          exact co
         ·
          rfl
         ·
          decide
         ·
          rfl
       rcases sel_some h with ⟨hb15, h⟩ | ⟨hb15, h⟩
       ·
        refine s_true rfl hb15 ?_
        refine aw_region ?_
        iterate 2 refine v_op hT hC rfl rfl rfl rfl trivial ?_
        refine Vc.nil ?_
        injection h with h
        subst h
        refine m_norm ?_
        refine w_cell hC 336 4 2820 (.ints .i64 []) rfl rfl rfl rfl rfl trivial ?_
        try dsimp only
        apply w_conv hC [(1600, 2820)]
        ·
         exact co
        ·
         rfl
        ·
         decide
        ·
         rfl
       ·
        refine s_false rfl hb15 ?_
        refine aw_skip ?_
        injection h with h
        subst h
        refine m_norm ?_
        try dsimp only
        apply w_conv hC [(1600, 2288)]
        ·
         exact co
        ·
         rfl
        ·
         decide
        ·
         rfl
      ·
       refine s_false rfl hb12 ?_
       refine aw_skip ?_
       injection h with h
       subst h
       refine m_norm ?_
       try dsimp only
       apply w_conv hC []
       ·
        exact co
       ·
        rfl
       ·
        decide
       ·
        rfl
    ·
     refine s_false rfl hb10 ?_
     refine aw_skip ?_
     injection h with h
     subst h
     refine m_norm ?_
     try dsimp only
     apply w_conv hC []
     ·
      exact co
     ·
      rfl
     ·
      decide
     ·
      rfl
   refine s_reg ?_
   iterate 6 refine v_op hT hC rfl rfl rfl rfl trivial ?_
   obtain ⟨q23, hq, h⟩ := bnd_some h
   refine v_call hC [(16, 2656)] rfl rfl rfl rfl Try.call14 (impl_SquareDots_ac hq) rfl (by decide) trivial rfl (.inr ⟨rfl, ⟨trivial, trivial⟩⟩) rfl ?_
   iterate 5 refine v_op hT hC rfl rfl rfl rfl trivial ?_
   refine Vc.nil ?_
   refine s_in ?_
   refine s_reg ?_
   iterate 2 refine v_op hT hC rfl rfl rfl rfl trivial ?_
   refine Vc.nil ?_
   rcases sel_some h with ⟨hb16, h⟩ | ⟨hb16, h⟩
   ·
    refine s_true rfl hb16 ?_
    refine s_reg ?_
    iterate 5 refine v_op hT hC rfl rfl rfl rfl trivial ?_
    refine Vc.nil ?_
    refine aw_ret ?_
    refine t_ret ?_
    injection h with h
    subst h
    refine ends (τ := ⟨[(14, .ptr 2000000 0), (15, .own 17), (16, .sv (.bool false))], [(16, some (.ints .i64 [])), (17, some (.ints .i64 ([] : List Int))), (2000000, some (.box [.sv (.int .i64 0), .sv (.int .i64 0), .sv (.int .i64 0), .sv (.int .i64 0), .own 16]))]⟩) ?_ rfl ⟨rfl, rfl, trivial⟩
    refine w_cell hC 224 4 2821 (.ints .i64 []) rfl rfl rfl rfl rfl trivial ?_
    apply w_conv hC [(16, 2821), (17, 2752), (2000000, 224)]
    ·
     exact co
    ·
     rfl
    ·
     decide
    ·
     rfl
   ·
    refine s_false rfl hb16 ?_
    refine aw_skip ?_
    refine t_norm ?_
    refine s_reg ?_
    iterate 5 refine v_op hT hC rfl rfl rfl rfl trivial ?_
    refine Vc.nil ?_
    refine aw_ret ?_
    injection h with h
    subst h
    refine ends (τ := ⟨[(14, .ptr 2000000 0), (15, .own 17), (16, .sv (.bool true))], [(16, some (.ints .i64 v14.2.2.2.2)), (17, some (.ints .i64 q23.1)), (2000000, some (.box [.sv (.int .i64 v14.1), .sv (.int .i64 v14.2.1), .sv (.int .i64 v14.2.2.1), .sv (.int .i64 v14.2.2.2.1), .own 16]))]⟩) ?_ rfl ⟨rfl, rfl, trivial⟩
    apply w_conv hC [(16, 1600), (17, 2656), (2000000, 224)]
    ·
     exact co
    ·
     rfl
    ·
     decide
    ·
     rfl
def laws_sameInts_res (r : Bool) : AV := .sv (.bool r)
def laws_sameInts_obs (r : Bool) : Objs := []
theorem laws_sameInts_ac {p0 : (List Int)} {p1 : (List Int)} {r : Bool} (h : laws_sameInts p0 p1 = some r) : AC Try.prog 16 [.sv (.ints .i64 p0), .sv (.ints .i64 p1)] [] (laws_sameInts_res r) (laws_sameInts_obs r) := by
 refine ac_of_body hT Try.func16 rfl fun C hC => ?_
 unfold laws_sameInts at h
 refine s_reg ?_
 refine v_op hT hC rfl rfl rfl rfl trivial ?_
 refine Vc.nil ?_
 refine s_in ?_
 refine s_reg ?_
 iterate 5 refine v_op hT hC rfl rfl rfl rfl trivial ?_
 refine Vc.nil ?_
 rcases sel_some h with ⟨hb1, h⟩ | ⟨hb1, h⟩
 ·
  refine s_true rfl hb1 ?_
  refine s_reg ?_
  refine v_op hT hC rfl rfl rfl rfl trivial ?_
  refine Vc.nil ?_
  refine aw_ret ?_
  refine t_ret ?_
  injection h with h
  subst h
  exact ends (Weak.refl _) rfl trivial
 ·
  refine s_false rfl hb1 ?_
  refine aw_skip ?_
  refine t_norm ?_
  refine s_in ?_
  refine s_reg ?_
  refine v_op hT hC rfl rfl rfl rfl trivial ?_
  refine Vc.nil ?_
  refine live [0, 1, 5] [] (s' := [_, _, _]) (o' := []) rfl rfl ?_
  obtain ⟨o5, hl, h⟩ := bnd_some h
  refine s_loopR (fun v2 => ([(5, .sv (.int .i64 v2))], [])) (fun v4 => ([(0, .any), (1, .any), (5, .any)], [])) (fun r => EndsA C T Try.f16.results.toList (laws_sameInts_res r) (laws_sameInts_obs r)) hl ?_ ?_ ?_ ?_
  ·
   apply w_conv hC []
   ·
    exact co
   ·
    rfl
   ·
    decide
   ·
    rfl
  ·
   intro v2 s hs
   have h := hs
   unfold laws_sameInts_l2 at h
   refine s_in ?_
   refine s_reg ?_
   iterate 4 refine v_op hT hC rfl rfl rfl rfl trivial ?_
   refine Vc.nil ?_
   rcases sel_some h with ⟨hb6, h⟩ | ⟨hb6, h⟩
   ·
    refine s_true rfl hb6 ?_
    refine aw_skip ?_
    refine t_norm ?_
    refine s_in ?_
    refine s_block ?_
    refine s_draw hm ?_
    iterate 2 refine v_op hT hC rfl rfl rfl rfl trivial ?_
    obtain ⟨hq, h⟩ := req_some h
    refine v_op hT hC rfl rfl rfl rfl hq ?_
    iterate 3 refine v_op hT hC rfl rfl rfl rfl trivial ?_
    obtain ⟨hq, h⟩ := req_some h
    refine v_op hT hC rfl rfl rfl rfl hq ?_
    iterate 2 refine v_op hT hC rfl rfl rfl rfl trivial ?_
    refine Vc.nil ⟨by kernel_rfl, ?_⟩
    rcases sel_some h with ⟨hb7, h⟩ | ⟨hb7, h⟩
    ·
     refine s_true rfl hb7 ?_
     refine s_reg ?_
     refine v_op hT hC rfl rfl rfl rfl trivial ?_
     refine Vc.nil ?_
     refine aw_ret ?_
     refine b_ret ?_
     refine t_ret ?_
     injection h with h
     subst h
     refine r_ret ?_
     refine o_ret ?_
     exact ends (Weak.refl _) rfl trivial
    ·
     refine s_false rfl hb7 ?_
     refine aw_skip ?_
     refine b_norm ?_
     refine t_norm ?_
     refine aw_region ?_
     iterate 3 refine v_op hT hC rfl rfl rfl rfl trivial ?_
     refine Vc.nil ?_
     injection h with h
     subst h
     refine r_go ?_
     apply w_conv hC []
     ·
      exact co
     ·
      rfl
     ·
      decide
     ·
      rfl
   ·
    refine s_false rfl hb6 ?_
    refine aw_exit ?_
    refine t_exit ?_
    injection h with h
    subst h
    refine r_exit ?_
    refine o_both ?_
    apply w_conv hC []
    ·
     exact co
    ·
     rfl
    ·
     decide
    ·
     rfl
  ·
   intro v4 e
   subst e
   refine t_norm ?_
   refine s_reg ?_
   refine v_op hT hC rfl rfl rfl rfl trivial ?_
   refine Vc.nil ?_
   refine aw_ret ?_
   injection h with h
   subst h
   exact ends (Weak.refl _) rfl trivial
  ·
   intro r' σ' e hE
   subst e
   injection h with h
   subst h
   refine t_ret ?_
   exact hE
def laws_FnSquareFor_res (r : Bool) : AV := .sv (.bool r)
def laws_FnSquareFor_obs (r : Bool) : Objs := []
theorem laws_FnSquareFor_ac {p0 : (List Int)} {r : Bool} (h : laws_FnSquareFor p0 = some r) : AC Try.prog 3 [.sv (.ints .u8 p0)] [] (laws_FnSquareFor_res r) (laws_FnSquareFor_obs r) := by
 refine ac_of_body hT Try.func3 rfl fun C hC => ?_
 unfold laws_FnSquareFor at h
 refine s_reg ?_
 refine v_op hT hC rfl rfl rfl rfl trivial ?_
 refine Vc.nil ?_
 refine s_in ?_
 refine s_reg ?_
 refine v_op hT hC rfl rfl rfl rfl trivial ?_
 obtain ⟨q1, hq, h⟩ := bnd_some h
 refine v_call hC [] rfl rfl rfl rfl Try.call8 (laws_big_ac hq) rfl (by decide) trivial rfl (.inl rfl) rfl ?_
 refine Vc.nil ?_
 rcases sel_some h with ⟨hb1, h⟩ | ⟨hb1, h⟩
 ·
  refine s_true rfl hb1 ?_
  refine s_reg ?_
  refine v_op hT hC rfl rfl rfl rfl trivial ?_
  refine Vc.nil ?_
  refine aw_ret ?_
  refine t_ret ?_
  injection h with h
  subst h
  exact ends (Weak.refl _) rfl trivial
 ·
  refine s_false rfl hb1 ?_
  refine aw_skip ?_
  refine t_norm ?_
  refine s_reg ?_
  refine v_op hT hC rfl rfl rfl rfl trivial ?_
  obtain ⟨q2, hq, h⟩ := bnd_some h
  refine v_call hC [] rfl rfl rfl rfl Try.call9 (spec_DrawPics_ac hq) rfl (by decide) trivial rfl (.inl rfl) rfl ?_
  iterate 7 refine v_op hT hC rfl rfl rfl rfl trivial ?_
  refine Vc.nil ?_
  refine s_reg ?_
  refine v_op hT hC rfl rfl rfl rfl trivial ?_
  obtain ⟨q3, hq, h⟩ := bnd_some h
  refine v_call hC [] rfl rfl rfl rfl Try.call10 (spec_DrawCond_ac hq) rfl (by decide) trivial rfl (.inl rfl) rfl ?_
  iterate 2 refine v_op hT hC rfl rfl rfl rfl trivial ?_
  refine Vc.nil ?_
  refine s_reg ?_
  refine v_op hT hC rfl rfl rfl rfl trivial ?_
  obtain ⟨q4, hq, h⟩ := bnd_some h
  refine v_call hC [(16, 400)] rfl rfl rfl rfl Try.call11 (spec_DrawPlaces_ac hq) rfl (by decide) trivial rfl (.inl rfl) rfl ?_
  refine v_op hT hC rfl rfl rfl rfl trivial ?_
  refine Vc.nil ?_
  refine s_draw hm ?_
  refine v_op hT hC rfl rfl rfl rfl trivial ?_
  obtain ⟨hq, h⟩ := req_some h
  refine v_op hT hC rfl rfl rfl rfl hq ?_
  obtain ⟨hq, h⟩ := req_some h
  refine v_op hT hC rfl rfl rfl rfl hq ?_
  iterate 2 refine v_op hT hC rfl rfl rfl rfl trivial ?_
  obtain ⟨hq, h⟩ := req_some h
  refine v_op hT hC rfl rfl rfl rfl hq ?_
  obtain ⟨hq, h⟩ := req_some h
  refine v_op hT hC rfl rfl rfl rfl hq ?_
  iterate 2 refine v_op hT hC rfl rfl rfl rfl trivial ?_
  refine Vc.nil ⟨by kernel_rfl, ?_⟩
  refine s_draw hm ?_
  refine v_op hT hC rfl rfl rfl rfl trivial ?_
  obtain ⟨hq, h⟩ := req_some h
  refine v_op hT hC rfl rfl rfl rfl hq ?_
  obtain ⟨hq, h⟩ := req_some h
  refine v_op hT hC rfl rfl rfl rfl hq ?_
  iterate 2 refine v_op hT hC rfl rfl rfl rfl trivial ?_
  obtain ⟨hq, h⟩ := req_some h
  refine v_op hT hC rfl rfl rfl rfl hq ?_
  obtain ⟨hq, h⟩ := req_some h
  refine v_op hT hC rfl rfl rfl rfl hq ?_
  iterate 2 refine v_op hT hC rfl rfl rfl rfl trivial ?_
  refine Vc.nil ⟨by kernel_rfl, ?_⟩
  refine s_reg ?_
  iterate 3 refine v_op hT hC rfl rfl rfl rfl trivial ?_
  obtain ⟨q5, hq, h⟩ := bnd_some h
  refine v_call hC [(16, 720)] rfl rfl rfl rfl Try.call12 (spec_BlockOf_ac hq) rfl (by decide) trivial rfl (.inl rfl) rfl ?_
  refine v_op hT hC rfl rfl rfl rfl trivial ?_
  refine Vc.nil ?_
  refine s_draw hm ?_
  iterate 4 refine v_op hT hC rfl rfl rfl rfl trivial ?_
  obtain ⟨hq, h⟩ := req_some h
  refine v_op hT hC rfl rfl rfl rfl ⟨trivial, hq⟩ ?_
  iterate 4 refine v_op hT hC rfl rfl rfl rfl trivial ?_
  obtain ⟨hq, h⟩ := req_some h
  refine v_op hT hC rfl rfl rfl rfl hq ?_
  obtain ⟨hq, h⟩ := req_some h
  refine v_op hT hC rfl rfl rfl rfl hq ?_
  obtain ⟨hq, h⟩ := req_some h
  refine v_op hT hC rfl rfl rfl rfl hq ?_
  obtain ⟨q6, hq, h⟩ := bnd_some h
  refine v_call hC [(16, 944), (17, 945)] rfl rfl rfl rfl Try.call13 (impl_SquareFor_ac hq) rfl (by decide) trivial rfl (.inr ⟨rfl, ⟨trivial, trivial, trivial⟩⟩) rfl ?_
  iterate 8 refine v_op hT hC rfl rfl rfl rfl trivial ?_
  refine Vc.nil ⟨by kernel_rfl, ?_⟩
  refine s_reg ?_
  iterate 6 refine v_op hT hC rfl rfl rfl rfl trivial ?_
  obtain ⟨q7, hq, h⟩ := bnd_some h
  refine v_call hC [(16, 1120)] rfl rfl rfl rfl Try.call14 (impl_SquareDots_ac hq) rfl (by decide) trivial rfl (.inr ⟨rfl, ⟨trivial, trivial⟩⟩) rfl ?_
  iterate 5 refine v_op hT hC rfl rfl rfl rfl trivial ?_
  refine Vc.nil ?_
  refine live [2, 5, 9, 10, 11, 12, 13, 14] [80, 160, 720, 944, 945, 1120] (s' := [_, _, _, _, _, _, _, _]) (o' := [_, _, _, _, _, _]) rfl rfl ?_
  obtain ⟨v8, h1, h⟩ := bnd_some h
  refine aw_to ([(2, .sv (.bool v8)), (5, .any), (9, .any), (10, .any), (11, .any), (12, .any), (13, .any), (14, .any)], [(80, none), (160, none), (720, none), (944, none), (945, none), (1120, none)]) ?_ ?_
  ·
   have h := h1
   refine aw_region ?_
   iterate 2 refine v_op hT hC rfl rfl rfl rfl trivial ?_
   rcases sel_some h with ⟨hb2, h⟩ | ⟨hb2, h⟩
   ·
    refine v_on hT hC rfl rfl rfl rfl hb2 rfl rfl rfl trivial ?_
    refine v_pick hC rfl rfl rfl (b := true) hb2 rfl rfl rfl trivial ?_
    refine v_op hT hC rfl rfl rfl rfl trivial ?_
    rcases sel_some h with ⟨hb3, h⟩ | ⟨hb3, h⟩
    ·
     refine v_on hT hC rfl rfl rfl rfl hb3 rfl rfl rfl trivial ?_
     obtain ⟨q9, hq, h⟩ := bnd_some h
     refine v_call_on hC [] rfl rfl rfl rfl hb3 rfl rfl rfl Try.call15 (impl_SquareOk_ac hq) rfl (by decide) trivial rfl (.inr ⟨rfl, trivial⟩) rfl ?_
     refine v_pick hC rfl rfl rfl (b := true) hb3 rfl rfl rfl trivial ?_
     refine v_op hT hC rfl rfl rfl rfl trivial ?_
     rcases sel_some h with ⟨hb4, h⟩ | ⟨hb4, h⟩
     ·
      iterate 3 refine v_on hT hC rfl rfl rfl rfl hb4 rfl rfl rfl trivial ?_
      refine v_pick hC rfl rfl rfl (b := true) hb4 rfl rfl rfl trivial ?_
      refine v_op hT hC rfl rfl rfl rfl trivial ?_
      rcases sel_some h with ⟨hb5, h⟩ | ⟨hb5, h⟩
      ·
       iterate 2 refine v_on hT hC rfl rfl rfl rfl hb5 rfl rfl rfl trivial ?_
       obtain ⟨q10, hq, h⟩ := bnd_some h
       refine v_call_on hC [] rfl rfl rfl rfl hb5 rfl rfl rfl Try.call16 (laws_sameInts_ac hq) rfl (by decide) trivial rfl (.inr ⟨rfl, trivial⟩) rfl ?_
       refine v_pick hC rfl rfl rfl (b := true) hb5 rfl rfl rfl trivial ?_
       refine v_op hT hC rfl rfl rfl rfl trivial ?_
       rcases sel_some h with ⟨hb6, h⟩ | ⟨hb6, h⟩
       ·
        iterate 4 refine v_on hT hC rfl rfl rfl rfl hb6 rfl rfl rfl trivial ?_
        rcases sel_some h with ⟨hb7, h⟩ | ⟨hb7, h⟩
        ·
         iterate 2 refine v_on hT hC rfl rfl rfl rfl (congrArg Bool.not hb7) rfl rfl rfl trivial ?_
         obtain ⟨q11, hq, h⟩ := bnd_some h
         refine v_call_on hC [] rfl rfl rfl rfl (congrArg Bool.not hb7) rfl rfl rfl Try.call16 (laws_sameInts_ac hq) rfl (by decide) trivial rfl (.inr ⟨rfl, trivial⟩) rfl ?_
         refine v_pick_on hC rfl rfl rfl rfl hb6 rfl rfl (b := false) (congrArg Bool.not hb7) rfl rfl rfl trivial ?_
         refine v_pick hC rfl rfl rfl (b := true) hb6 rfl rfl rfl trivial ?_
         refine v_op hT hC rfl rfl rfl rfl trivial ?_
         refine Vc.nil ?_
         injection h with h
         subst h
         refine m_norm ?_
         apply w_conv hC []
         ·
          exact co
         ·
          rfl
         ·
          decide
         ·
          rfl
        ·
         refine v_off hC rfl rfl rfl rfl (congrArg Bool.not hb7) rfl rfl ?_
         refine v_off hC rfl rfl rfl rfl (congrArg Bool.not hb7) rfl rfl ?_
         refine v_off hC rfl rfl rfl rfl (congrArg Bool.not hb7) rfl rfl ?_
         refine v_pick_on hC rfl rfl rfl rfl hb6 rfl rfl (b := true) (congrArg Bool.not hb7) rfl rfl rfl trivial ?_
         refine v_pick hC rfl rfl rfl (b := true) hb6 rfl rfl rfl trivial ?_
         refine v_op hT hC rfl rfl rfl rfl trivial ?_
         refine Vc.nil ?_
         injection h with h
         subst h
         refine m_norm ?_
         apply w_conv hC []
         ·
          exact co
         ·
          rfl
         ·
          decide
         ·
          rfl
       ·
        refine v_off hC rfl rfl rfl rfl hb6 rfl rfl ?_
        refine v_off hC rfl rfl rfl rfl hb6 rfl rfl ?_
        refine v_off hC rfl rfl rfl rfl hb6 rfl rfl ?_
        refine v_off hC rfl rfl rfl rfl hb6 rfl rfl ?_
        iterate 3 refine v_dead hC rfl rfl rfl rfl rfl rfl ?_
        refine v_off hC rfl rfl rfl rfl hb6 rfl rfl ?_
        refine v_pick hC rfl rfl rfl (b := false) hb6 rfl rfl rfl trivial ?_
        refine v_op hT hC rfl rfl rfl rfl trivial ?_
        refine Vc.nil ?_
        injection h with h
        subst h
        refine m_norm ?_
        apply w_conv hC []
        ·
         exact co
        ·
         rfl
        ·
         decide
        ·
         rfl
      ·
       refine v_off hC rfl rfl rfl rfl hb5 rfl rfl ?_
       refine v_off hC rfl rfl rfl rfl hb5 rfl rfl ?_
       refine v_off hC rfl rfl rfl rfl hb5 rfl rfl ?_
       refine v_pick hC rfl rfl rfl (b := false) hb5 rfl rfl rfl trivial ?_
       refine v_op hT hC rfl rfl rfl rfl trivial ?_
       refine v_off hC rfl rfl rfl rfl rfl rfl rfl ?_
       refine v_off hC rfl rfl rfl rfl rfl rfl rfl ?_
       refine v_off hC rfl rfl rfl rfl rfl rfl rfl ?_
       refine v_off hC rfl rfl rfl rfl rfl rfl rfl ?_
       iterate 3 refine v_dead hC rfl rfl rfl rfl rfl rfl ?_
       refine v_off hC rfl rfl rfl rfl rfl rfl rfl ?_
       iterate 2 refine v_op hT hC rfl rfl rfl rfl trivial ?_
       refine Vc.nil ?_
       injection h with h
       subst h
       refine m_norm ?_
       apply w_conv hC []
       ·
        exact co
       ·
        rfl
       ·
        decide
       ·
        rfl
     ·
      refine v_off hC rfl rfl rfl rfl hb4 rfl rfl ?_
      refine v_off hC rfl rfl rfl rfl hb4 rfl rfl ?_
      refine v_off hC rfl rfl rfl rfl hb4 rfl rfl ?_
      refine v_pick hC rfl rfl rfl (b := false) hb4 rfl rfl rfl trivial ?_
      refine v_op hT hC rfl rfl rfl rfl trivial ?_
      refine v_off hC rfl rfl rfl rfl rfl rfl rfl ?_
      refine v_off hC rfl rfl rfl rfl rfl rfl rfl ?_
      refine v_off hC rfl rfl rfl rfl rfl rfl rfl ?_
      iterate 2 refine v_op hT hC rfl rfl rfl rfl trivial ?_
      refine v_off hC rfl rfl rfl rfl rfl rfl rfl ?_
      refine v_off hC rfl rfl rfl rfl rfl rfl rfl ?_
      refine v_off hC rfl rfl rfl rfl rfl rfl rfl ?_
      refine v_off hC rfl rfl rfl rfl rfl rfl rfl ?_
      iterate 3 refine v_dead hC rfl rfl rfl rfl rfl rfl ?_
      refine v_off hC rfl rfl rfl rfl rfl rfl rfl ?_
      iterate 2 refine v_op hT hC rfl rfl rfl rfl trivial ?_
      refine Vc.nil ?_
      injection h with h
      subst h
      refine m_norm ?_
      apply w_conv hC []
      ·
       exact co
      ·
       rfl
      ·
       decide
      ·
       rfl
    ·
     refine v_off hC rfl rfl rfl rfl hb3 rfl rfl ?_
     refine v_off hC rfl rfl rfl rfl hb3 rfl rfl ?_
     refine v_pick hC rfl rfl rfl (b := false) hb3 rfl rfl rfl trivial ?_
     refine v_op hT hC rfl rfl rfl rfl trivial ?_
     refine v_off hC rfl rfl rfl rfl rfl rfl rfl ?_
     refine v_off hC rfl rfl rfl rfl rfl rfl rfl ?_
     refine v_off hC rfl rfl rfl rfl rfl rfl rfl ?_
     iterate 2 refine v_op hT hC rfl rfl rfl rfl trivial ?_
     refine v_off hC rfl rfl rfl rfl rfl rfl rfl ?_
     refine v_off hC rfl rfl rfl rfl rfl rfl rfl ?_
     refine v_off hC rfl rfl rfl rfl rfl rfl rfl ?_
     iterate 2 refine v_op hT hC rfl rfl rfl rfl trivial ?_
     refine v_off hC rfl rfl rfl rfl rfl rfl rfl ?_
     refine v_off hC rfl rfl rfl rfl rfl rfl rfl ?_
     refine v_off hC rfl rfl rfl rfl rfl rfl rfl ?_
     refine v_off hC rfl rfl rfl rfl rfl rfl rfl ?_
     iterate 3 refine v_dead hC rfl rfl rfl rfl rfl rfl ?_
     refine v_off hC rfl rfl rfl rfl rfl rfl rfl ?_
     iterate 2 refine v_op hT hC rfl rfl rfl rfl trivial ?_
     refine Vc.nil ?_
     injection h with h
     subst h
     refine m_norm ?_
     apply w_conv hC []
     ·
      exact co
     ·
      rfl
     ·
      decide
     ·
      rfl
   ·
    refine v_off hC rfl rfl rfl rfl hb2 rfl rfl ?_
    refine v_pick hC rfl rfl rfl (b := false) hb2 rfl rfl rfl trivial ?_
    refine v_op hT hC rfl rfl rfl rfl trivial ?_
    refine v_off hC rfl rfl rfl rfl rfl rfl rfl ?_
    refine v_off hC rfl rfl rfl rfl rfl rfl rfl ?_
    iterate 2 refine v_op hT hC rfl rfl rfl rfl trivial ?_
    refine v_off hC rfl rfl rfl rfl rfl rfl rfl ?_
    refine v_off hC rfl rfl rfl rfl rfl rfl rfl ?_
    refine v_off hC rfl rfl rfl rfl rfl rfl rfl ?_
    iterate 2 refine v_op hT hC rfl rfl rfl rfl trivial ?_
    refine v_off hC rfl rfl rfl rfl rfl rfl rfl ?_
    refine v_off hC rfl rfl rfl rfl rfl rfl rfl ?_
    refine v_off hC rfl rfl rfl rfl rfl rfl rfl ?_
    iterate 2 refine v_op hT hC rfl rfl rfl rfl trivial ?_
    refine v_off hC rfl rfl rfl rfl rfl rfl rfl ?_
    refine v_off hC rfl rfl rfl rfl rfl rfl rfl ?_
    refine v_off hC rfl rfl rfl rfl rfl rfl rfl ?_
    refine v_off hC rfl rfl rfl rfl rfl rfl rfl ?_
    iterate 3 refine v_dead hC rfl rfl rfl rfl rfl rfl ?_
    refine v_off hC rfl rfl rfl rfl rfl rfl rfl ?_
    iterate 2 refine v_op hT hC rfl rfl rfl rfl trivial ?_
    refine Vc.nil ?_
    injection h with h
    subst h
    refine m_norm ?_
    apply w_conv hC []
    ·
     exact co
    ·
     rfl
    ·
     decide
    ·
     rfl
  refine aw_ret ?_
  injection h with h
  subst h
  exact ends (Weak.refl _) rfl trivial
end
end Go.Proofs.Ytjfkbpgdghijfaa.A
