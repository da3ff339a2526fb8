/- Contracts of the functions that the law FnExactPartShows reaches, part 1: each comes to what its pure function tells. Written by a program of this session. Conditions: as each statement tells. -/
import Derived.Test.YtpmljllgnocjkaaGreatFFnExactPartShowsx0
namespace Go.Proofs.YtpmljllgnocjkaaGreat.A
open Go Go.Proofs Go.Proofs.YtpmljllgnocjkaaGreatAL Go.RowKit
set_option linter.unusedVariables false
set_option linter.unusedSimpArgs false
set_option maxRecDepth 100000
set_option maxHeartbeats 2000000
noncomputable section
def spec_LevelsBack_res (r : ((List Int) × Bool)) : AV := .tup [.own 16, .sv (.bool r.2)]
def spec_LevelsBack_obs (r : ((List Int) × Bool)) : Objs := [(16, .ints .i64 r.1)]
theorem spec_LevelsBack_ac {p0 : (List Int)} {p1 : Cond} {r : ((List Int) × Bool)} (h : spec_LevelsBack p0 p1 = some r) : AC Tryz.prog 114 [.sv (.ints .i64 p0), .agg [.sv (.bool p1.Key), .sv (.int .i64 p1.Qp), .sv (.bool p1.Large), .sv (.bool p1.Exact)]] [] (spec_LevelsBack_res r) (spec_LevelsBack_obs r) := by
 refine ac_of_body hT Tryz.func114 rfl fun C hC => ?_
 unfold spec_LevelsBack at h
 refine s_reg ?_
 iterate 3 refine v_op hT hC rfl rfl rfl rfl trivial ?_
 refine Vc.nil ?_
 refine s_in ?_
 refine live [0, 3] [48] (s' := [_, _]) (o' := [_]) rfl rfl ?_
 obtain ⟨v1, h1, h⟩ := bnd_some h
 refine aw_to ([(23, .sv (.bool v1))], []) ?_ ?_
 ·
  have h := h1
  refine aw_region ?_
  refine v_op hT hC rfl rfl rfl rfl trivial ?_
  obtain ⟨q2, hq, h⟩ := bnd_some h
  refine v_call hC [] rfl rfl rfl rfl Tryz.call45 (spec_CondOk_ac hq) rfl (by decide) trivial rfl (.inl rfl) rfl ?_
  iterate 2 refine v_op hT hC rfl rfl rfl rfl trivial ?_
  rcases sel_some h with ⟨hb1, h⟩ | ⟨hb1, h⟩
  ·
   refine v_on hT hC rfl rfl rfl rfl (congrArg Bool.not hb1) rfl rfl rfl trivial ?_
   obtain ⟨q3, hq, h⟩ := bnd_some h
   refine v_call_on hC [] rfl rfl rfl rfl (congrArg Bool.not hb1) rfl rfl rfl Tryz.call169 (spec_l09All_ac hq) rfl (by decide) trivial rfl (.inl rfl) rfl ?_
   refine v_on hT hC rfl rfl rfl rfl (congrArg Bool.not hb1) rfl rfl rfl trivial ?_
   refine v_pick hC rfl rfl rfl (b := false) (congrArg Bool.not hb1) rfl rfl rfl trivial ?_
   refine Vc.nil ?_
   injection h with h
   subst h
   refine m_norm ?_
   apply w_conv hC []
   ·
    exact co
   ·
    rfl
   ·
    decide
   ·
    rfl
  ·
   refine v_off hC rfl rfl rfl rfl (congrArg Bool.not hb1) rfl rfl ?_
   refine v_off hC rfl rfl rfl rfl (congrArg Bool.not hb1) rfl rfl ?_
   refine v_off hC rfl rfl rfl rfl (congrArg Bool.not hb1) rfl rfl ?_
   refine v_pick hC rfl rfl rfl (b := true) (congrArg Bool.not hb1) rfl rfl rfl trivial ?_
   refine Vc.nil ?_
   injection h with h
   subst h
   refine m_norm ?_
   apply w_conv hC []
   ·
    exact co
   ·
    rfl
   ·
    decide
   ·
    rfl
 rcases sel_some h with ⟨hb2, h⟩ | ⟨hb2, h⟩
 ·
  refine s_true rfl hb2 ?_
  refine s_reg ?_
  iterate 3 refine v_op hT hC rfl rfl rfl rfl trivial ?_
  refine Vc.nil ?_
  refine aw_ret ?_
  refine t_ret ?_
  injection h with h
  subst h
  refine ends (τ := ⟨[(4, .own 16), (5, .sv (.bool false))], [(16, some (.ints .i64 ([] : List Int)))]⟩) ?_ rfl ⟨rfl, trivial⟩
  apply w_conv hC [(16, 384)]
  ·
   exact co
  ·
   rfl
  ·
   decide
  ·
   rfl
 ·
  refine s_false rfl hb2 ?_
  refine aw_skip ?_
  refine t_norm ?_
  refine s_in ?_
  refine s_reg ?_
  iterate 2 refine v_op hT hC rfl rfl rfl rfl trivial ?_
  refine Vc.nil ?_
  rcases sel_some h with ⟨hb3, h⟩ | ⟨hb3, h⟩
  ·
   refine s_true rfl hb3 ?_
   refine s_reg ?_
   refine v_op hT hC rfl rfl rfl rfl trivial ?_
   obtain ⟨q4, hq, h⟩ := bnd_some h
   refine v_call hC [(16, 448)] rfl rfl rfl rfl Tryz.call178 (spec_Unscanned_ac hq) rfl (by decide) trivial rfl (.inl rfl) rfl ?_
   iterate 4 refine v_op hT hC rfl rfl rfl rfl trivial ?_
   refine Vc.nil ?_
   refine aw_ret ?_
   refine t_ret ?_
   injection h with h
   subst h
   refine ends (τ := ⟨[(4, .own 16), (5, .sv (.bool q4.2))], [(16, some (.ints .i64 q4.1))]⟩) ?_ rfl ⟨rfl, trivial⟩
   apply w_conv hC [(16, 448)]
   ·
    exact co
   ·
    rfl
   ·
    decide
   ·
    rfl
  ·
   refine s_false rfl hb3 ?_
   refine aw_skip ?_
   refine t_norm ?_
   refine s_in ?_
   refine s_reg ?_
   iterate 2 refine v_op hT hC rfl rfl rfl rfl trivial ?_
   refine Vc.nil ?_
   rcases sel_some h with ⟨hb4, h⟩ | ⟨hb4, h⟩
   ·
    refine s_true rfl hb4 ?_
    refine s_reg ?_
    refine v_op hT hC rfl rfl rfl rfl trivial ?_
    obtain ⟨q5, hq, h⟩ := bnd_some h
    refine v_call hC [(16, 560)] rfl rfl rfl rfl Tryz.call178 (spec_Unscanned_ac hq) rfl (by decide) trivial rfl (.inl rfl) rfl ?_
    iterate 5 refine v_op hT hC rfl rfl rfl rfl trivial ?_
    refine Vc.nil ?_
    refine s_in ?_
    refine s_reg ?_
    refine v_op hT hC rfl rfl rfl rfl trivial ?_
    refine Vc.nil ?_
    refine live [3, 6, 8] [48, 560] (s' := [_, _, _]) (o' := [_, _]) rfl rfl ?_
    obtain ⟨v11, hl, h⟩ := bnd_some h
    refine s_loop (fun v8 => ([(8, .sv (.int .i64 v8.1))], [(560, some (.ints .i64 v8.2))])) (fun v11 => ([(3, .any), (8, .any)], [(560, some (.ints .i64 v11)), (48, none)])) hl ?_ ?_ ?_
    ·
     try dsimp only
     apply w_conv hC []
     ·
      exact co
     ·
      rfl
     ·
      decide
     ·
      rfl
    ·
     intro v8 s hs
     have h := hs
     unfold spec_LevelsBack_l4 at h
     refine s_in ?_
     refine s_reg ?_
     iterate 2 refine v_op hT hC rfl rfl rfl rfl trivial ?_
     refine Vc.nil ?_
     rcases sel_some h with ⟨hb7, h⟩ | ⟨hb7, h⟩
     ·
      refine s_true rfl hb7 ?_
      refine aw_skip ?_
      refine t_norm ?_
      refine s_in ?_
      refine s_block ?_
      refine aw_draw hm ?_
      iterate 4 refine v_op hT hC rfl rfl rfl rfl trivial ?_
      obtain ⟨hq, h⟩ := req_some h
      refine v_op hT hC rfl rfl rfl rfl hq ?_
      obtain ⟨hq, h⟩ := req_some h
      refine v_op hT hC rfl rfl rfl rfl hq ?_
      iterate 2 refine v_op hT hC rfl rfl rfl rfl trivial ?_
      obtain ⟨q12, hq, h⟩ := bnd_some h
      refine v_call hC [] rfl rfl rfl rfl Tryz.call179 (spec_LargeBack_ac hq) rfl (by decide) trivial rfl (.inl rfl) rfl ?_
      obtain ⟨hq, h⟩ := req_some h
      refine v_op hT hC rfl rfl rfl rfl hq ?_
      obtain ⟨hq, h⟩ := req_some h
      refine v_op hT hC rfl rfl rfl rfl hq ?_
      refine Vc.nil ⟨by kernel_rfl, ?_⟩
      refine b_norm ?_
      refine t_norm ?_
      refine aw_region ?_
      iterate 3 refine v_op hT hC rfl rfl rfl rfl trivial ?_
      refine Vc.nil ?_
      injection h with h
      subst h
      refine r_go ?_
      try dsimp only
      apply w_conv hC []
      ·
       exact co
      ·
       rfl
      ·
       decide
      ·
       rfl
     ·
      refine s_false rfl hb7 ?_
      refine aw_exit ?_
      refine t_exit ?_
      injection h with h
      subst h
      refine r_exit ?_
      refine o_out ?_
      apply w_conv hC []
      ·
       exact co
      ·
       rfl
      ·
       decide
      ·
       rfl
    refine t_norm ?_
    refine s_reg ?_
    refine v_op hT hC rfl rfl rfl rfl trivial ?_
    obtain ⟨q14, hq, h⟩ := bnd_some h
    refine v_call hC [(16, 848)] rfl rfl rfl rfl Tryz.call180 (spec_EightBack_ac hq) rfl (by decide) trivial rfl (.inr ⟨rfl, ⟨trivial, trivial⟩⟩) rfl ?_
    iterate 2 refine v_op hT hC rfl rfl rfl rfl trivial ?_
    refine Vc.nil ?_
    refine aw_ret ?_
    refine t_ret ?_
    injection h with h
    subst h
    refine ends (τ := ⟨[(4, .own 16), (5, .sv (.bool true))], [(16, some (.ints .i64 q14))]⟩) ?_ rfl ⟨rfl, trivial⟩
    apply w_conv hC [(16, 848)]
    ·
     exact co
    ·
     rfl
    ·
     decide
    ·
     rfl
   ·
    refine s_false rfl hb4 ?_
    refine aw_skip ?_
    refine t_norm ?_
    refine s_reg ?_
    obtain ⟨hq, h⟩ := req_some h
    refine v_op hT hC rfl rfl rfl rfl ⟨hq.1, hq.2.1, hq.2.2, by decide⟩ ?_
    refine v_op hT hC rfl rfl rfl rfl trivial ?_
    refine Vc.nil ?_
    refine s_in ?_
    refine s_reg ?_
    refine v_op hT hC rfl rfl rfl rfl trivial ?_
    refine Vc.nil ?_
    refine live [0, 3, 9, 10] [48, 864] (s' := [_, _, _, _]) (o' := [_, _]) rfl rfl ?_
    obtain ⟨v48, hl, h⟩ := bnd_some h
    refine s_loop (fun v31 => ([(10, .sv (.int .i64 v31.1))], [(864, some (.ints .i64 v31.2))])) (fun v48 => ([(0, .any), (3, .any), (10, .any)], [(864, some (.ints .i64 v48)), (48, none)])) hl ?_ ?_ ?_
    ·
     try dsimp only
     apply w_conv hC []
     ·
      exact co
     ·
      rfl
     ·
      decide
     ·
      rfl
    ·
     intro v31 s hs
     have h := hs
     unfold spec_LevelsBack_l36 at h
     refine s_in ?_
     refine s_reg ?_
     iterate 2 refine v_op hT hC rfl rfl rfl rfl trivial ?_
     refine Vc.nil ?_
     rcases sel_some h with ⟨hb22, h⟩ | ⟨hb22, h⟩
     ·
      refine s_true rfl hb22 ?_
      refine aw_skip ?_
      refine t_norm ?_
      refine s_in ?_
      refine s_block ?_
      refine s_reg ?_
      iterate 6 refine v_op hT hC rfl rfl rfl rfl trivial ?_
      obtain ⟨hq, h⟩ := req_some h
      refine v_op hT hC rfl rfl rfl rfl hq ?_
      obtain ⟨q49, hq, h⟩ := bnd_some h
      refine v_call hC [(16, 1072)] rfl rfl rfl rfl Tryz.call178 (spec_Unscanned_ac hq) rfl (by decide) trivial rfl (.inl rfl) rfl ?_
      iterate 5 refine v_op hT hC rfl rfl rfl rfl trivial ?_
      refine Vc.nil ?_
      refine s_in ?_
      refine s_reg ?_
      refine v_op hT hC rfl rfl rfl rfl trivial ?_
      refine Vc.nil ?_
      refine live [0, 3, 9, 10, 11, 13] [48, 864, 1072] (s' := [_, _, _, _, _, _]) (o' := [_, _, _]) rfl rfl ?_
      obtain ⟨v55, hl, h⟩ := bnd_some h
      refine s_loop (fun v52 => ([(13, .sv (.int .i64 v52.1))], [(1072, some (.ints .i64 v52.2))])) (fun v55 => ([(13, .any)], [(1072, some (.ints .i64 v55))])) hl ?_ ?_ ?_
      ·
       try dsimp only
       apply w_conv hC []
       ·
        exact co
       ·
        rfl
       ·
        decide
       ·
        rfl
      ·
       intro v52 s hs
       have h := hs
       unfold spec_LevelsBack_l41 at h
       refine s_in ?_
       refine s_reg ?_
       iterate 2 refine v_op hT hC rfl rfl rfl rfl trivial ?_
       refine Vc.nil ?_
       rcases sel_some h with ⟨hb25, h⟩ | ⟨hb25, h⟩
       ·
        refine s_true rfl hb25 ?_
        refine aw_skip ?_
        refine t_norm ?_
        refine s_in ?_
        refine s_block ?_
        refine aw_draw hm ?_
        iterate 4 refine v_op hT hC rfl rfl rfl rfl trivial ?_
        obtain ⟨hq, h⟩ := req_some h
        refine v_op hT hC rfl rfl rfl rfl hq ?_
        obtain ⟨hq, h⟩ := req_some h
        refine v_op hT hC rfl rfl rfl rfl hq ?_
        iterate 3 refine v_op hT hC rfl rfl rfl rfl trivial ?_
        obtain ⟨q56, hq, h⟩ := bnd_some h
        refine v_call hC [] rfl rfl rfl rfl Tryz.call181 (spec_SmallBack_ac hq) rfl (by decide) trivial rfl (.inl rfl) rfl ?_
        obtain ⟨hq, h⟩ := req_some h
        refine v_op hT hC rfl rfl rfl rfl hq ?_
        obtain ⟨hq, h⟩ := req_some h
        refine v_op hT hC rfl rfl rfl rfl hq ?_
        refine Vc.nil ⟨by kernel_rfl, ?_⟩
        refine b_norm ?_
        refine t_norm ?_
        refine aw_region ?_
        iterate 3 refine v_op hT hC rfl rfl rfl rfl trivial ?_
        refine Vc.nil ?_
        injection h with h
        subst h
        refine r_go ?_
        try dsimp only
        apply w_conv hC []
        ·
         exact co
        ·
         rfl
        ·
         decide
        ·
         rfl
       ·
        refine s_false rfl hb25 ?_
        refine aw_exit ?_
        refine t_exit ?_
        injection h with h
        subst h
        refine r_exit ?_
        refine o_out ?_
        apply w_conv hC []
        ·
         exact co
        ·
         rfl
        ·
         decide
        ·
         rfl
      refine t_norm ?_
      refine s_reg ?_
      refine v_op hT hC rfl rfl rfl rfl trivial ?_
      obtain ⟨q58, hq, h⟩ := bnd_some h
      refine v_call hC [(16, 1376)] rfl rfl rfl rfl Tryz.call182 (spec_FourBack_ac hq) rfl (by decide) trivial rfl (.inr ⟨rfl, ⟨trivial, trivial⟩⟩) rfl ?_
      refine v_op hT hC rfl rfl rfl rfl trivial ?_
      refine Vc.nil ?_
      refine s_reg ?_
      refine v_op hT hC rfl rfl rfl rfl trivial ?_
      refine Vc.nil ?_
      refine live [0, 3, 9, 10, 14, 15] [48, 864, 1376] (s' := [_, _, _, _, _, _]) (o' := [_, _, _]) rfl rfl ?_
      obtain ⟨v62, hl, h⟩ := bnd_some h
      refine s_loop (fun v60 => ([(15, .sv (.int .i64 v60.1))], [(864, some (.ints .i64 v60.2))])) (fun v62 => ([(14, .any), (15, .any)], [(864, some (.ints .i64 v62)), (1376, none)])) hl ?_ ?_ ?_
      ·
       try dsimp only
       apply w_conv hC []
       ·
        exact co
       ·
        rfl
       ·
        decide
       ·
        rfl
      ·
       intro v60 s hs
       have h := hs
       unfold spec_LevelsBack_l42 at h
       refine s_in ?_
       refine s_reg ?_
       iterate 2 refine v_op hT hC rfl rfl rfl rfl trivial ?_
       refine Vc.nil ?_
       rcases sel_some h with ⟨hb28, h⟩ | ⟨hb28, h⟩
       ·
        refine s_true rfl hb28 ?_
        refine aw_skip ?_
        refine t_norm ?_
        refine s_in ?_
        refine s_block ?_
        refine aw_region ?_
        iterate 2 refine v_op hT hC rfl rfl rfl rfl trivial ?_
        obtain ⟨hq, h⟩ := req_some h
        refine v_op hT hC rfl rfl rfl rfl hq ?_
        iterate 2 refine v_op hT hC rfl rfl rfl rfl trivial ?_
        obtain ⟨hq, h⟩ := req_some h
        refine v_op hT hC rfl rfl rfl rfl hq ?_
        iterate 3 refine v_op hT hC rfl rfl rfl rfl trivial ?_
        obtain ⟨hq, h⟩ := req_some h
        refine v_op hT hC rfl rfl rfl rfl hq ?_
        iterate 3 refine v_op hT hC rfl rfl rfl rfl trivial ?_
        obtain ⟨hq, h⟩ := req_some h
        refine v_op hT hC rfl rfl rfl rfl hq ?_
        iterate 3 refine v_op hT hC rfl rfl rfl rfl trivial ?_
        obtain ⟨hq, h⟩ := req_some h
        refine v_op hT hC rfl rfl rfl rfl hq ?_
        obtain ⟨hq, h⟩ := req_some h
        refine v_op hT hC rfl rfl rfl rfl hq ?_
        obtain ⟨hq, h⟩ := req_some h
        refine v_op hT hC rfl rfl rfl rfl hq ?_
        obtain ⟨hq, h⟩ := req_some h
        refine v_op hT hC rfl rfl rfl rfl hq ?_
        refine Vc.nil ?_
        refine b_norm ?_
        refine t_norm ?_
        refine aw_region ?_
        iterate 3 refine v_op hT hC rfl rfl rfl rfl trivial ?_
        refine Vc.nil ?_
        injection h with h
        subst h
        refine r_go ?_
        try dsimp only
        apply w_conv hC []
        ·
         exact co
        ·
         rfl
        ·
         decide
        ·
         rfl
       ·
        refine s_false rfl hb28 ?_
        refine aw_exit ?_
        refine t_exit ?_
        injection h with h
        subst h
        refine r_exit ?_
        refine o_out ?_
        apply w_conv hC []
        ·
         exact co
        ·
         rfl
        ·
         decide
        ·
         rfl
      refine b_norm ?_
      refine t_norm ?_
      refine aw_region ?_
      iterate 3 refine v_op hT hC rfl rfl rfl rfl trivial ?_
      refine Vc.nil ?_
      injection h with h
      subst h
      refine r_go ?_
      try dsimp only
      apply w_conv hC []
      ·
       exact co
      ·
       rfl
      ·
       decide
      ·
       rfl
     ·
      refine s_false rfl hb22 ?_
      refine aw_exit ?_
      refine t_exit ?_
      injection h with h
      subst h
      refine r_exit ?_
      refine o_out ?_
      apply w_conv hC []
      ·
       exact co
      ·
       rfl
      ·
       decide
      ·
       rfl
    refine t_norm ?_
    refine s_reg ?_
    iterate 3 refine v_op hT hC rfl rfl rfl rfl trivial ?_
    refine Vc.nil ?_
    refine aw_ret ?_
    injection h with h
    subst h
    refine ends (τ := ⟨[(4, .own 16), (5, .sv (.bool true))], [(16, some (.ints .i64 v48))]⟩) ?_ rfl ⟨rfl, trivial⟩
    apply w_conv hC [(16, 864)]
    ·
     exact co
    ·
     rfl
    ·
     decide
    ·
     rfl
def spec_Joined_res (r : (List Int)) : AV := .own 16
def spec_Joined_obs (r : (List Int)) : Objs := [(16, .ints .i64 r)]
theorem spec_Joined_ac {p0 : (List Int)} {p1 : (List Int)} {r : (List Int)} (h : spec_Joined p0 p1 = some r) : AC Tryz.prog 115 [.sv (.ints .i64 p0), .sv (.ints .i64 p1)] [] (spec_Joined_res r) (spec_Joined_obs r) := by
 refine ac_of_body hT Tryz.func115 rfl fun C hC => ?_
 unfold spec_Joined at h
 refine s_reg ?_
 refine v_op hT hC rfl rfl rfl rfl trivial ?_
 refine Vc.nil ?_
 refine s_reg ?_
 iterate 2 refine v_op hT hC rfl rfl rfl rfl trivial ?_
 refine Vc.nil ?_
 refine s_in ?_
 refine live [0, 1, 5] [112] (s' := [_, _, _]) (o' := [_]) rfl rfl ?_
 obtain ⟨v1, h1, h⟩ := bnd_some h
 refine aw_to ([(15, .sv (.bool v1))], []) ?_ ?_
 ·
  have h := h1
  refine aw_region ?_
  refine v_op hT hC rfl rfl rfl rfl trivial ?_
  obtain ⟨q2, hq, h⟩ := bnd_some h
  refine v_call hC [] rfl rfl rfl rfl Tryz.call44 (spec_l13Dots_ac hq) rfl (by decide) trivial rfl (.inl rfl) rfl ?_
  iterate 2 refine v_op hT hC rfl rfl rfl rfl trivial ?_
  rcases sel_some h with ⟨hb1, h⟩ | ⟨hb1, h⟩
  ·
   refine v_on hT hC rfl rfl rfl rfl (congrArg Bool.not hb1) rfl rfl rfl trivial ?_
   obtain ⟨q3, hq, h⟩ := bnd_some h
   refine v_call_on hC [] rfl rfl rfl rfl (congrArg Bool.not hb1) rfl rfl rfl Tryz.call169 (spec_l09All_ac hq) rfl (by decide) trivial rfl (.inl rfl) rfl ?_
   refine v_on hT hC rfl rfl rfl rfl (congrArg Bool.not hb1) rfl rfl rfl trivial ?_
   refine v_pick hC rfl rfl rfl (b := false) (congrArg Bool.not hb1) rfl rfl rfl trivial ?_
   refine Vc.nil ?_
   injection h with h
   subst h
   refine m_norm ?_
   apply w_conv hC []
   ·
    exact co
   ·
    rfl
   ·
    decide
   ·
    rfl
  ·
   refine v_off hC rfl rfl rfl rfl (congrArg Bool.not hb1) rfl rfl ?_
   refine v_off hC rfl rfl rfl rfl (congrArg Bool.not hb1) rfl rfl ?_
   refine v_off hC rfl rfl rfl rfl (congrArg Bool.not hb1) rfl rfl ?_
   refine v_pick hC rfl rfl rfl (b := true) (congrArg Bool.not hb1) rfl rfl rfl trivial ?_
   refine Vc.nil ?_
   injection h with h
   subst h
   refine m_norm ?_
   apply w_conv hC []
   ·
    exact co
   ·
    rfl
   ·
    decide
   ·
    rfl
 rcases sel_some h with ⟨hb2, h⟩ | ⟨hb2, h⟩
 ·
  refine s_true rfl hb2 ?_
  refine s_reg ?_
  iterate 2 refine v_op hT hC rfl rfl rfl rfl trivial ?_
  refine Vc.nil ?_
  refine aw_ret ?_
  refine t_ret ?_
  injection h with h
  subst h
  refine ends (τ := ⟨[(4, .own 16)], [(16, some (.ints .i64 ([] : List Int)))]⟩) ?_ rfl ⟨rfl, trivial⟩
  apply w_conv hC [(16, 112)]
  ·
   exact co
  ·
   rfl
  ·
   decide
  ·
   rfl
 ·
  refine s_false rfl hb2 ?_
  refine aw_skip ?_
  refine t_norm ?_
  refine s_in ?_
  refine s_reg ?_
  refine v_op hT hC rfl rfl rfl rfl trivial ?_
  refine Vc.nil ?_
  refine live [0, 1, 5, 6] [112] (s' := [_, _, _, _]) (o' := [_]) rfl rfl ?_
  obtain ⟨v9, hl, h⟩ := bnd_some h
  refine s_loop (fun v6 => ([(6, .sv (.int .i64 v6.1))], [(112, some (.ints .i64 v6.2))])) (fun v9 => ([(0, .any), (1, .any), (6, .any)], [(112, some (.ints .i64 v9))])) hl ?_ ?_ ?_
  ·
   try dsimp only
   apply w_conv hC []
   ·
    exact co
   ·
    rfl
   ·
    decide
   ·
    rfl
  ·
   intro v6 s hs
   have h := hs
   unfold spec_Joined_l2 at h
   refine s_in ?_
   refine s_reg ?_
   iterate 2 refine v_op hT hC rfl rfl rfl rfl trivial ?_
   refine Vc.nil ?_
   rcases sel_some h with ⟨hb5, h⟩ | ⟨hb5, h⟩
   ·
    refine s_true rfl hb5 ?_
    refine aw_skip ?_
    refine t_norm ?_
    refine s_in ?_
    refine s_block ?_
    refine aw_draw hm ?_
    iterate 3 refine v_op hT hC rfl rfl rfl rfl trivial ?_
    obtain ⟨hq, h⟩ := req_some h
    refine v_op hT hC rfl rfl rfl rfl hq ?_
    iterate 3 refine v_op hT hC rfl rfl rfl rfl trivial ?_
    obtain ⟨hq, h⟩ := req_some h
    refine v_op hT hC rfl rfl rfl rfl hq ?_
    iterate 2 refine v_op hT hC rfl rfl rfl rfl trivial ?_
    obtain ⟨q10, hq, h⟩ := bnd_some h
    refine v_call hC [] rfl rfl rfl rfl Tryz.call155 (spec_Brought_ac hq) rfl (by decide) trivial rfl (.inl rfl) rfl ?_
    refine v_op hT hC rfl rfl rfl rfl trivial ?_
    obtain ⟨hq, h⟩ := req_some h
    refine v_op hT hC rfl rfl rfl rfl ⟨trivial, hq⟩ ?_
    refine v_op hT hC rfl rfl rfl rfl trivial ?_
    refine Vc.nil ⟨by kernel_rfl, ?_⟩
    refine b_norm ?_
    refine t_norm ?_
    refine aw_region ?_
    iterate 3 refine v_op hT hC rfl rfl rfl rfl trivial ?_
    refine Vc.nil ?_
    injection h with h
    subst h
    refine r_go ?_
    try dsimp only
    apply w_conv hC [(112, 528)]
    ·
     exact co
    ·
     rfl
    ·
     decide
    ·
     rfl
   ·
    refine s_false rfl hb5 ?_
    refine aw_exit ?_
    refine t_exit ?_
    injection h with h
    subst h
    refine r_exit ?_
    refine o_out ?_
    apply w_conv hC []
    ·
     exact co
    ·
     rfl
    ·
     decide
    ·
     rfl
  refine t_norm ?_
  refine s_reg ?_
  iterate 2 refine v_op hT hC rfl rfl rfl rfl trivial ?_
  refine Vc.nil ?_
  refine aw_ret ?_
  injection h with h
  subst h
  refine ends (τ := ⟨[(4, .own 16)], [(16, some (.ints .i64 v9))]⟩) ?_ rfl ⟨rfl, trivial⟩
  apply w_conv hC [(16, 112)]
  ·
   exact co
  ·
   rfl
  ·
   decide
  ·
   rfl
def spec_SquareDots_res (r : ((List Int) × Bool)) : AV := .tup [.own 16, .sv (.bool r.2)]
def spec_SquareDots_obs (r : ((List Int) × Bool)) : Objs := [(16, .ints .i64 r.1)]
theorem spec_SquareDots_ac {p0 : Pic} {p1 : Pic} {p2 : Int} {p3 : Int} {p4 : Cond} {p5 : Int} {p6 : Int} {p7 : Square} {r : ((List Int) × Bool)} (h : spec_SquareDots p0 p1 p2 p3 p4 p5 p6 p7 = some r) : AC Tryz.prog 49 [.agg [.sv (.int .i64 p0.Wide), .sv (.int .i64 p0.High), .sv (.str p0.Dots)], .agg [.sv (.int .i64 p1.Wide), .sv (.int .i64 p1.High), .sv (.str p1.Dots)], .sv (.int .i64 p2), .sv (.int .i64 p3), .agg [.sv (.bool p4.Key), .sv (.int .i64 p4.Qp), .sv (.bool p4.Large), .sv (.bool p4.Exact)], .sv (.int .i64 p5), .sv (.int .i64 p6), .agg [.sv (.int .i64 p7.Kind), .sv (.int .i64 p7.Mode), .sv (.int .i64 p7.Dx), .sv (.int .i64 p7.Dy), .sv (.ints .i64 p7.Levels)]] [] (spec_SquareDots_res r) (spec_SquareDots_obs r) := by
 refine ac_of_body hT Tryz.func49 rfl fun C hC => ?_
 unfold spec_SquareDots at h
 refine s_reg ?_
 iterate 6 refine v_op hT hC rfl rfl rfl rfl trivial ?_
 refine Vc.nil ?_
 refine s_in ?_
 refine live [2, 3, 5, 6, 8, 9, 12, 15] [128, 144, 192, 240] (s' := [_, _, _, _, _, _, _, _]) (o' := [_, _, _, _]) rfl rfl ?_
 obtain ⟨v1, h1, h⟩ := bnd_some h
 refine aw_to ([(49, .sv (.bool v1))], []) ?_ ?_
 ·
  have h := h1
  refine aw_region ?_
  iterate 3 refine v_op hT hC rfl rfl rfl rfl trivial ?_
  obtain ⟨q2, hq, h⟩ := bnd_some h
  refine v_call hC [] rfl rfl rfl rfl Tryz.call43 (spec_l13Fits_ac hq) rfl (by decide) trivial rfl (.inl rfl) rfl ?_
  iterate 2 refine v_op hT hC rfl rfl rfl rfl trivial ?_
  rcases sel_some h with ⟨hb1, h⟩ | ⟨hb1, h⟩
  ·
   refine v_on hT hC rfl rfl rfl rfl (congrArg Bool.not hb1) rfl rfl rfl trivial ?_
   obtain ⟨q3, hq, h⟩ := bnd_some h
   refine v_call_on hC [] rfl rfl rfl rfl (congrArg Bool.not hb1) rfl rfl rfl Tryz.call46 (spec_l01In_ac hq) rfl (by decide) trivial rfl (.inl rfl) rfl ?_
   refine v_on hT hC rfl rfl rfl rfl (congrArg Bool.not hb1) rfl rfl rfl trivial ?_
   refine v_pick hC rfl rfl rfl (b := false) (congrArg Bool.not hb1) rfl rfl rfl trivial ?_
   refine v_op hT hC rfl rfl rfl rfl trivial ?_
   rcases sel_some h with ⟨hb2, h⟩ | ⟨hb2, h⟩
   ·
    refine v_on hT hC rfl rfl rfl rfl (congrArg Bool.not hb2) rfl rfl rfl trivial ?_
    obtain ⟨q4, hq, h⟩ := bnd_some h
    refine v_call_on hC [] rfl rfl rfl rfl (congrArg Bool.not hb2) rfl rfl rfl Tryz.call46 (spec_l01In_ac hq) rfl (by decide) trivial rfl (.inl rfl) rfl ?_
    refine v_on hT hC rfl rfl rfl rfl (congrArg Bool.not hb2) rfl rfl rfl trivial ?_
    refine v_pick hC rfl rfl rfl (b := false) (congrArg Bool.not hb2) rfl rfl rfl trivial ?_
    refine v_op hT hC rfl rfl rfl rfl trivial ?_
    rcases sel_some h with ⟨hb3, h⟩ | ⟨hb3, h⟩
    ·
     refine v_on hT hC rfl rfl rfl rfl (congrArg Bool.not hb3) rfl rfl rfl trivial ?_
     obtain ⟨q5, hq, h⟩ := bnd_some h
     refine v_call_on hC [] rfl rfl rfl rfl (congrArg Bool.not hb3) rfl rfl rfl Tryz.call113 (spec_SquareOk_ac hq) rfl (by decide) trivial rfl (.inl rfl) rfl ?_
     refine v_on hT hC rfl rfl rfl rfl (congrArg Bool.not hb3) rfl rfl rfl trivial ?_
     refine v_pick hC rfl rfl rfl (b := false) (congrArg Bool.not hb3) rfl rfl rfl trivial ?_
     refine v_op hT hC rfl rfl rfl rfl trivial ?_
     rcases sel_some h with ⟨hb4, h⟩ | ⟨hb4, h⟩
     ·
      refine v_on hT hC rfl rfl rfl rfl (congrArg Bool.not hb4) rfl rfl rfl trivial ?_
      obtain ⟨q6, hq, h⟩ := bnd_some h
      refine v_call_on hC [] rfl rfl rfl rfl (congrArg Bool.not hb4) rfl rfl rfl Tryz.call45 (spec_CondOk_ac hq) rfl (by decide) trivial rfl (.inl rfl) rfl ?_
      refine v_on hT hC rfl rfl rfl rfl (congrArg Bool.not hb4) rfl rfl rfl trivial ?_
      refine v_pick hC rfl rfl rfl (b := false) (congrArg Bool.not hb4) rfl rfl rfl trivial ?_
      refine Vc.nil ?_
      injection h with h
      subst h
      refine m_norm ?_
      apply w_conv hC []
      ·
       exact co
      ·
       rfl
      ·
       decide
      ·
       rfl
     ·
      refine v_off hC rfl rfl rfl rfl (congrArg Bool.not hb4) rfl rfl ?_
      refine v_off hC rfl rfl rfl rfl (congrArg Bool.not hb4) rfl rfl ?_
      refine v_off hC rfl rfl rfl rfl (congrArg Bool.not hb4) rfl rfl ?_
      refine v_pick hC rfl rfl rfl (b := true) (congrArg Bool.not hb4) rfl rfl rfl trivial ?_
      refine Vc.nil ?_
      injection h with h
      subst h
      refine m_norm ?_
      apply w_conv hC []
      ·
       exact co
      ·
       rfl
      ·
       decide
      ·
       rfl
    ·
     refine v_off hC rfl rfl rfl rfl (congrArg Bool.not hb3) rfl rfl ?_
     refine v_off hC rfl rfl rfl rfl (congrArg Bool.not hb3) rfl rfl ?_
     refine v_off hC rfl rfl rfl rfl (congrArg Bool.not hb3) rfl rfl ?_
     refine v_pick hC rfl rfl rfl (b := true) (congrArg Bool.not hb3) rfl rfl rfl trivial ?_
     refine v_op hT hC rfl rfl rfl rfl trivial ?_
     refine v_off hC rfl rfl rfl rfl rfl rfl rfl ?_
     refine v_off hC rfl rfl rfl rfl rfl rfl rfl ?_
     refine v_off hC rfl rfl rfl rfl rfl rfl rfl ?_
     refine v_op hT hC rfl rfl rfl rfl trivial ?_
     refine Vc.nil ?_
     injection h with h
     subst h
     refine m_norm ?_
     apply w_conv hC []
     ·
      exact co
     ·
      rfl
     ·
      decide
     ·
      rfl
   ·
    refine v_off hC rfl rfl rfl rfl (congrArg Bool.not hb2) rfl rfl ?_
    refine v_off hC rfl rfl rfl rfl (congrArg Bool.not hb2) rfl rfl ?_
    refine v_off hC rfl rfl rfl rfl (congrArg Bool.not hb2) rfl rfl ?_
    refine v_pick hC rfl rfl rfl (b := true) (congrArg Bool.not hb2) rfl rfl rfl trivial ?_
    refine v_op hT hC rfl rfl rfl rfl trivial ?_
    refine v_off hC rfl rfl rfl rfl rfl rfl rfl ?_
    refine v_off hC rfl rfl rfl rfl rfl rfl rfl ?_
    refine v_off hC rfl rfl rfl rfl rfl rfl rfl ?_
    iterate 2 refine v_op hT hC rfl rfl rfl rfl trivial ?_
    refine v_off hC rfl rfl rfl rfl rfl rfl rfl ?_
    refine v_off hC rfl rfl rfl rfl rfl rfl rfl ?_
    refine v_off hC rfl rfl rfl rfl rfl rfl rfl ?_
    refine v_op hT hC rfl rfl rfl rfl trivial ?_
    refine Vc.nil ?_
    injection h with h
    subst h
    refine m_norm ?_
    apply w_conv hC []
    ·
     exact co
    ·
     rfl
    ·
     decide
    ·
     rfl
  ·
   refine v_off hC rfl rfl rfl rfl (congrArg Bool.not hb1) rfl rfl ?_
   refine v_off hC rfl rfl rfl rfl (congrArg Bool.not hb1) rfl rfl ?_
   refine v_off hC rfl rfl rfl rfl (congrArg Bool.not hb1) rfl rfl ?_
   refine v_pick hC rfl rfl rfl (b := true) (congrArg Bool.not hb1) rfl rfl rfl trivial ?_
   refine v_op hT hC rfl rfl rfl rfl trivial ?_
   refine v_off hC rfl rfl rfl rfl rfl rfl rfl ?_
   refine v_off hC rfl rfl rfl rfl rfl rfl rfl ?_
   refine v_off hC rfl rfl rfl rfl rfl rfl rfl ?_
   iterate 2 refine v_op hT hC rfl rfl rfl rfl trivial ?_
   refine v_off hC rfl rfl rfl rfl rfl rfl rfl ?_
   refine v_off hC rfl rfl rfl rfl rfl rfl rfl ?_
   refine v_off hC rfl rfl rfl rfl rfl rfl rfl ?_
   iterate 2 refine v_op hT hC rfl rfl rfl rfl trivial ?_
   refine v_off hC rfl rfl rfl rfl rfl rfl rfl ?_
   refine v_off hC rfl rfl rfl rfl rfl rfl rfl ?_
   refine v_off hC rfl rfl rfl rfl rfl rfl rfl ?_
   refine v_op hT hC rfl rfl rfl rfl trivial ?_
   refine Vc.nil ?_
   injection h with h
   subst h
   refine m_norm ?_
   apply w_conv hC []
   ·
    exact co
   ·
    rfl
   ·
    decide
   ·
    rfl
 rcases sel_some h with ⟨hb5, h⟩ | ⟨hb5, h⟩
 ·
  refine s_true rfl hb5 ?_
  refine s_reg ?_
  iterate 3 refine v_op hT hC rfl rfl rfl rfl trivial ?_
  refine Vc.nil ?_
  refine aw_ret ?_
  refine t_ret ?_
  injection h with h
  subst h
  refine ends (τ := ⟨[(16, .own 16), (17, .sv (.bool false))], [(16, some (.ints .i64 ([] : List Int)))]⟩) ?_ rfl ⟨rfl, trivial⟩
  apply w_conv hC [(16, 800)]
  ·
   exact co
  ·
   rfl
  ·
   decide
  ·
   rfl
 ·
  refine s_false rfl hb5 ?_
  refine aw_skip ?_
  refine t_norm ?_
  refine s_in ?_
  refine s_reg ?_
  iterate 3 refine v_op hT hC rfl rfl rfl rfl trivial ?_
  refine Vc.nil ?_
  rcases sel_some h with ⟨hb6, h⟩ | ⟨hb6, h⟩
  ·
   refine s_true rfl hb6 ?_
   refine s_reg ?_
   iterate 3 refine v_op hT hC rfl rfl rfl rfl trivial ?_
   obtain ⟨q7, hq, h⟩ := bnd_some h
   refine v_call hC [(16, 928), (17, 929)] rfl rfl rfl rfl Tryz.call108 (spec_EdgesOf_ac hq) rfl (by decide) trivial rfl (.inl rfl) rfl ?_
   iterate 6 refine v_op hT hC rfl rfl rfl rfl trivial ?_
   refine Vc.nil ?_
   refine s_reg ?_
   iterate 3 refine v_op hT hC rfl rfl rfl rfl trivial ?_
   obtain ⟨q8, hq, h⟩ := bnd_some h
   refine v_call hC [(16, 1040)] rfl rfl rfl rfl Tryz.call114 (spec_LevelsBack_ac hq) rfl (by decide) trivial rfl (.inl rfl) rfl ?_
   iterate 5 refine v_op hT hC rfl rfl rfl rfl trivial ?_
   refine Vc.nil ?_
   refine s_reg ?_
   iterate 3 refine v_op hT hC rfl rfl rfl rfl trivial ?_
   obtain ⟨q9, hq, h⟩ := bnd_some h
   refine v_call hC [(16, 1136)] rfl rfl rfl rfl Tryz.call112 (spec_GuessOf_ac hq) rfl (by decide) trivial rfl (.inr ⟨rfl, ⟨trivial, trivial⟩⟩) rfl ?_
   refine v_op hT hC rfl rfl rfl rfl trivial ?_
   obtain ⟨q10, hq, h⟩ := bnd_some h
   refine v_call hC [(16, 1168)] rfl rfl rfl rfl Tryz.call115 (spec_Joined_ac hq) rfl (by decide) trivial rfl (.inr ⟨rfl, ⟨trivial, trivial⟩⟩) rfl ?_
   iterate 2 refine v_op hT hC rfl rfl rfl rfl trivial ?_
   refine Vc.nil ?_
   refine aw_ret ?_
   refine t_ret ?_
   injection h with h
   subst h
   refine ends (τ := ⟨[(16, .own 16), (17, .sv (.bool true))], [(16, some (.ints .i64 q10))]⟩) ?_ rfl ⟨rfl, trivial⟩
   apply w_conv hC [(16, 1168)]
   ·
    exact co
   ·
    rfl
   ·
    decide
   ·
    rfl
  ·
   refine s_false rfl hb6 ?_
   refine aw_skip ?_
   refine t_norm ?_
   refine s_in ?_
   refine live [2, 3, 5, 6, 9, 12, 15] [144, 192, 240] (s' := [_, _, _, _, _, _, _]) (o' := [_, _, _]) rfl rfl ?_
   obtain ⟨v11, h1, h⟩ := bnd_some h
   refine aw_to ([(80, .sv (.bool v11))], []) ?_ ?_
   ·
    have h := h1
    refine aw_region ?_
    iterate 3 refine v_op hT hC rfl rfl rfl rfl trivial ?_
    rcases sel_some h with ⟨hb7, h⟩ | ⟨hb7, h⟩
    ·
     refine v_off hC rfl rfl rfl rfl hb7 rfl rfl ?_
     refine v_off hC rfl rfl rfl rfl hb7 rfl rfl ?_
     refine v_off hC rfl rfl rfl rfl hb7 rfl rfl ?_
     refine v_pick hC rfl rfl rfl (b := true) hb7 rfl rfl rfl trivial ?_
     refine Vc.nil ?_
     injection h with h
     subst h
     refine m_norm ?_
     apply w_conv hC []
     ·
      exact co
     ·
      rfl
     ·
      decide
     ·
      rfl
    ·
     refine v_on hT hC rfl rfl rfl rfl hb7 rfl rfl rfl trivial ?_
     obtain ⟨q12, hq, h⟩ := bnd_some h
     refine v_call_on hC [] rfl rfl rfl rfl hb7 rfl rfl rfl Tryz.call64 (spec_PicOk_ac hq) rfl (by decide) trivial rfl (.inl rfl) rfl ?_
     refine v_on hT hC rfl rfl rfl rfl hb7 rfl rfl rfl trivial ?_
     refine v_pick hC rfl rfl rfl (b := false) hb7 rfl rfl rfl trivial ?_
     refine Vc.nil ?_
     injection h with h
     subst h
     refine m_norm ?_
     apply w_conv hC []
     ·
      exact co
     ·
      rfl
     ·
      decide
     ·
      rfl
   rcases sel_some h with ⟨hb8, h⟩ | ⟨hb8, h⟩
   ·
    refine s_true rfl hb8 ?_
    refine s_reg ?_
    iterate 3 refine v_op hT hC rfl rfl rfl rfl trivial ?_
    refine Vc.nil ?_
    refine aw_ret ?_
    refine t_ret ?_
    injection h with h
    subst h
    refine ends (τ := ⟨[(16, .own 16), (17, .sv (.bool false))], [(16, some (.ints .i64 ([] : List Int)))]⟩) ?_ rfl ⟨rfl, trivial⟩
    apply w_conv hC [(16, 1296)]
    ·
     exact co
    ·
     rfl
    ·
     decide
    ·
     rfl
   ·
    refine s_false rfl hb8 ?_
    refine aw_skip ?_
    refine t_norm ?_
    refine s_reg ?_
    iterate 13 refine v_op hT hC rfl rfl rfl rfl trivial ?_
    obtain ⟨q13, hq, h⟩ := bnd_some h
    refine v_call hC [(16, 1520)] rfl rfl rfl rfl Tryz.call67 (spec_BlockOf_ac hq) rfl (by decide) trivial rfl (.inl rfl) rfl ?_
    refine v_op hT hC rfl rfl rfl rfl trivial ?_
    refine Vc.nil ?_
    refine s_in ?_
    refine s_reg ?_
    iterate 3 refine v_op hT hC rfl rfl rfl rfl trivial ?_
    refine Vc.nil ?_
    rcases sel_some h with ⟨hb9, h⟩ | ⟨hb9, h⟩
    ·
     refine s_true rfl hb9 ?_
     refine s_reg ?_
     iterate 3 refine v_op hT hC rfl rfl rfl rfl trivial ?_
     refine Vc.nil ?_
     refine aw_ret ?_
     refine t_ret ?_
     injection h with h
     subst h
     refine ends (τ := ⟨[(16, .own 16), (17, .sv (.bool true))], [(16, some (.ints .i64 q13))]⟩) ?_ rfl ⟨rfl, trivial⟩
     apply w_conv hC [(16, 1520)]
     ·
      exact co
     ·
      rfl
     ·
      decide
     ·
      rfl
    ·
     refine s_false rfl hb9 ?_
     refine aw_skip ?_
     refine t_norm ?_
     refine s_reg ?_
     iterate 3 refine v_op hT hC rfl rfl rfl rfl trivial ?_
     obtain ⟨q14, hq, h⟩ := bnd_some h
     refine v_call hC [(16, 1664)] rfl rfl rfl rfl Tryz.call114 (spec_LevelsBack_ac hq) rfl (by decide) trivial rfl (.inl rfl) rfl ?_
     iterate 5 refine v_op hT hC rfl rfl rfl rfl trivial ?_
     refine Vc.nil ?_
     refine s_reg ?_
     iterate 2 refine v_op hT hC rfl rfl rfl rfl trivial ?_
     obtain ⟨q15, hq, h⟩ := bnd_some h
     refine v_call hC [(16, 1744)] rfl rfl rfl rfl Tryz.call115 (spec_Joined_ac hq) rfl (by decide) trivial rfl (.inr ⟨rfl, ⟨trivial, trivial⟩⟩) rfl ?_
     iterate 2 refine v_op hT hC rfl rfl rfl rfl trivial ?_
     refine Vc.nil ?_
     refine aw_ret ?_
     injection h with h
     subst h
     refine ends (τ := ⟨[(16, .own 16), (17, .sv (.bool true))], [(16, some (.ints .i64 q15))]⟩) ?_ rfl ⟨rfl, trivial⟩
     apply w_conv hC [(16, 1744)]
     ·
      exact co
     ·
      rfl
     ·
      decide
     ·
      rfl
def impl_within_res (r : Bool) : AV := .sv (.bool r)
def impl_within_obs (r : Bool) : Objs := []
theorem impl_within_ac {p0 : Int} {p1 : Int} {p2 : Int} {r : Bool} (h : impl_within p0 p1 p2 = some r) : AC Tryz.prog 54 [.sv (.int .i64 p0), .sv (.int .i64 p1), .sv (.int .i64 p2)] [] (impl_within_res r) (impl_within_obs r) := by
 refine ac_of_body hT Tryz.func54 rfl fun C hC => ?_
 unfold impl_within at h
 refine s_reg ?_
 refine v_op hT hC rfl rfl rfl rfl trivial ?_
 refine Vc.nil ?_
 refine live [0, 1, 2, 6] [] (s' := [_, _, _, _]) (o' := []) rfl rfl ?_
 obtain ⟨v1, h1, h⟩ := bnd_some h
 refine aw_to ([(6, .sv (.bool v1)), (0, .any), (1, .any), (2, .any)], []) ?_ ?_
 ·
  have h := h1
  refine aw_region ?_
  iterate 4 refine v_op hT hC rfl rfl rfl rfl trivial ?_
  rcases sel_some h with ⟨hb1, h⟩ | ⟨hb1, h⟩
  ·
   iterate 3 refine v_on hT hC rfl rfl rfl rfl hb1 rfl rfl rfl trivial ?_
   refine v_pick hC rfl rfl rfl (b := true) hb1 rfl rfl rfl trivial ?_
   refine v_op hT hC rfl rfl rfl rfl trivial ?_
   refine Vc.nil ?_
   injection h with h
   subst h
   refine m_norm ?_
   apply w_conv hC []
   ·
    exact co
   ·
    rfl
   ·
    decide
   ·
    rfl
  ·
   refine v_off hC rfl rfl rfl rfl hb1 rfl rfl ?_
   refine v_off hC rfl rfl rfl rfl hb1 rfl rfl ?_
   refine v_off hC rfl rfl rfl rfl hb1 rfl rfl ?_
   refine v_pick hC rfl rfl rfl (b := false) hb1 rfl rfl rfl trivial ?_
   refine v_op hT hC rfl rfl rfl rfl trivial ?_
   refine Vc.nil ?_
   injection h with h
   subst h
   refine m_norm ?_
   apply w_conv hC []
   ·
    exact co
   ·
    rfl
   ·
    decide
   ·
    rfl
 refine aw_ret ?_
 injection h with h
 subst h
 exact ends (Weak.refl _) rfl trivial
def impl_PicOk_res (r : Bool) : AV := .sv (.bool r)
def impl_PicOk_obs (r : Bool) : Objs := []
theorem impl_PicOk_ac {p0 : Pic} {r : Bool} (h : impl_PicOk p0 = some r) : AC Tryz.prog 50 [.agg [.sv (.int .i64 p0.Wide), .sv (.int .i64 p0.High), .sv (.str p0.Dots)]] [] (impl_PicOk_res r) (impl_PicOk_obs r) := by
 refine ac_of_body hT Tryz.func50 rfl fun C hC => ?_
 unfold impl_PicOk at h
 refine s_reg ?_
 iterate 2 refine v_op hT hC rfl rfl rfl rfl trivial ?_
 refine Vc.nil ?_
 refine live [1, 2] [16] (s' := [_, _]) (o' := [_]) rfl rfl ?_
 obtain ⟨v1, h1, h⟩ := bnd_some h
 refine aw_to ([(2, .sv (.bool v1)), (1, .any)], [(16, none)]) ?_ ?_
 ·
  have h := h1
  refine aw_region ?_
  iterate 2 refine v_op hT hC rfl rfl rfl rfl trivial ?_
  obtain ⟨q2, hq, h⟩ := bnd_some h
  refine v_call hC [] rfl rfl rfl rfl Tryz.call54 (impl_within_ac hq) rfl (by decide) trivial rfl (.inl rfl) rfl ?_
  refine v_op hT hC rfl rfl rfl rfl trivial ?_
  rcases sel_some h with ⟨hb1, h⟩ | ⟨hb1, h⟩
  ·
   iterate 2 refine v_on hT hC rfl rfl rfl rfl hb1 rfl rfl rfl trivial ?_
   obtain ⟨q3, hq, h⟩ := bnd_some h
   refine v_call_on hC [] rfl rfl rfl rfl hb1 rfl rfl rfl Tryz.call54 (impl_within_ac hq) rfl (by decide) trivial rfl (.inl rfl) rfl ?_
   refine v_pick hC rfl rfl rfl (b := true) hb1 rfl rfl rfl trivial ?_
   refine v_op hT hC rfl rfl rfl rfl trivial ?_
   rcases sel_some h with ⟨hb2, h⟩ | ⟨hb2, h⟩
   ·
    iterate 9 refine v_on hT hC rfl rfl rfl rfl hb2 rfl rfl rfl trivial ?_
    refine v_pick hC rfl rfl rfl (b := true) hb2 rfl rfl rfl trivial ?_
    refine v_op hT hC rfl rfl rfl rfl trivial ?_
    refine Vc.nil ?_
    injection h with h
    subst h
    refine m_norm ?_
    apply w_conv hC []
    ·
     exact co
    ·
     rfl
    ·
     decide
    ·
     rfl
   ·
    refine v_off hC rfl rfl rfl rfl hb2 rfl rfl ?_
    refine v_off hC rfl rfl rfl rfl hb2 rfl rfl ?_
    refine v_off hC rfl rfl rfl rfl hb2 rfl rfl ?_
    refine v_off hC rfl rfl rfl rfl hb2 rfl rfl ?_
    refine v_off hC rfl rfl rfl rfl hb2 rfl rfl ?_
    refine v_off hC rfl rfl rfl rfl hb2 rfl rfl ?_
    refine v_off hC rfl rfl rfl rfl hb2 rfl rfl ?_
    refine v_off hC rfl rfl rfl rfl hb2 rfl rfl ?_
    refine v_off hC rfl rfl rfl rfl hb2 rfl rfl ?_
    refine v_pick hC rfl rfl rfl (b := false) hb2 rfl rfl rfl trivial ?_
    refine v_op hT hC rfl rfl rfl rfl trivial ?_
    refine Vc.nil ?_
    injection h with h
    subst h
    refine m_norm ?_
    apply w_conv hC []
    ·
     exact co
    ·
     rfl
    ·
     decide
    ·
     rfl
  ·
   refine v_off hC rfl rfl rfl rfl hb1 rfl rfl ?_
   refine v_off hC rfl rfl rfl rfl hb1 rfl rfl ?_
   refine v_off hC rfl rfl rfl rfl hb1 rfl rfl ?_
   refine v_pick hC rfl rfl rfl (b := false) hb1 rfl rfl rfl trivial ?_
   refine v_op hT hC rfl rfl rfl rfl trivial ?_
   refine v_off hC rfl rfl rfl rfl rfl rfl rfl ?_
   refine v_off hC rfl rfl rfl rfl rfl rfl rfl ?_
   refine v_off hC rfl rfl rfl rfl rfl rfl rfl ?_
   refine v_off hC rfl rfl rfl rfl rfl rfl rfl ?_
   refine v_off hC rfl rfl rfl rfl rfl rfl rfl ?_
   refine v_off hC rfl rfl rfl rfl rfl rfl rfl ?_
   refine v_off hC rfl rfl rfl rfl rfl rfl rfl ?_
   refine v_off hC rfl rfl rfl rfl rfl rfl rfl ?_
   refine v_off hC rfl rfl rfl rfl rfl rfl rfl ?_
   iterate 2 refine v_op hT hC rfl rfl rfl rfl trivial ?_
   refine Vc.nil ?_
   injection h with h
   subst h
   refine m_norm ?_
   apply w_conv hC []
   ·
    exact co
   ·
    rfl
   ·
    decide
   ·
    rfl
 refine aw_ret ?_
 injection h with h
 subst h
 exact ends (Weak.refl _) rfl trivial
def impl_Pic_isSquare_res (r : Bool) : AV := .sv (.bool r)
def impl_Pic_isSquare_obs (r : Bool) : Objs := []
theorem impl_Pic_isSquare_ac {p0 : Pic} {p1 : Int} {p2 : Int} {r : Bool} (h : impl_Pic_isSquare p0 p1 p2 = some r) : AC Tryz.prog 51 [.agg [.sv (.int .i64 p0.Wide), .sv (.int .i64 p0.High), .sv (.str p0.Dots)], .sv (.int .i64 p1), .sv (.int .i64 p2)] [] (impl_Pic_isSquare_res r) (impl_Pic_isSquare_obs r) := by
 refine ac_of_body hT Tryz.func51 rfl fun C hC => ?_
 unfold impl_Pic_isSquare at h
 refine s_reg ?_
 iterate 2 refine v_op hT hC rfl rfl rfl rfl trivial ?_
 refine Vc.nil ?_
 refine live [1, 2, 3, 6] [48] (s' := [_, _, _, _]) (o' := [_]) rfl rfl ?_
 obtain ⟨v1, h1, h⟩ := bnd_some h
 refine aw_to ([(6, .sv (.bool v1)), (1, .any), (2, .any), (3, .any)], [(48, none)]) ?_ ?_
 ·
  have h := h1
  refine aw_region ?_
  refine v_op hT hC rfl rfl rfl rfl trivial ?_
  obtain ⟨hq, h⟩ := req_some h
  refine v_op hT hC rfl rfl rfl rfl hq ?_
  iterate 2 refine v_op hT hC rfl rfl rfl rfl trivial ?_
  rcases sel_some h with ⟨hb1, h⟩ | ⟨hb1, h⟩
  ·
   refine v_on hT hC rfl rfl rfl rfl hb1 rfl rfl rfl trivial ?_
   obtain ⟨hq, h⟩ := req_some h
   refine v_on hT hC rfl rfl rfl rfl hb1 rfl rfl rfl hq ?_
   refine v_on hT hC rfl rfl rfl rfl hb1 rfl rfl rfl trivial ?_
   refine v_pick hC rfl rfl rfl (b := true) hb1 rfl rfl rfl trivial ?_
   refine v_op hT hC rfl rfl rfl rfl trivial ?_
   rcases sel_some h with ⟨hb2, h⟩ | ⟨hb2, h⟩
   ·
    iterate 4 refine v_on hT hC rfl rfl rfl rfl hb2 rfl rfl rfl trivial ?_
    obtain ⟨q2, hq, h⟩ := bnd_some h
    refine v_call_on hC [] rfl rfl rfl rfl hb2 rfl rfl rfl Tryz.call54 (impl_within_ac hq) rfl (by decide) trivial rfl (.inl rfl) rfl ?_
    refine v_pick hC rfl rfl rfl (b := true) hb2 rfl rfl rfl trivial ?_
    refine v_op hT hC rfl rfl rfl rfl trivial ?_
    rcases sel_some h with ⟨hb3, h⟩ | ⟨hb3, h⟩
    ·
     iterate 4 refine v_on hT hC rfl rfl rfl rfl hb3 rfl rfl rfl trivial ?_
     obtain ⟨q3, hq, h⟩ := bnd_some h
     refine v_call_on hC [] rfl rfl rfl rfl hb3 rfl rfl rfl Tryz.call54 (impl_within_ac hq) rfl (by decide) trivial rfl (.inl rfl) rfl ?_
     refine v_pick hC rfl rfl rfl (b := true) hb3 rfl rfl rfl trivial ?_
     refine v_op hT hC rfl rfl rfl rfl trivial ?_
     refine Vc.nil ?_
     injection h with h
     subst h
     refine m_norm ?_
     apply w_conv hC []
     ·
      exact co
     ·
      rfl
     ·
      decide
     ·
      rfl
    ·
     refine v_off hC rfl rfl rfl rfl hb3 rfl rfl ?_
     refine v_off hC rfl rfl rfl rfl hb3 rfl rfl ?_
     refine v_off hC rfl rfl rfl rfl hb3 rfl rfl ?_
     refine v_off hC rfl rfl rfl rfl hb3 rfl rfl ?_
     refine v_off hC rfl rfl rfl rfl hb3 rfl rfl ?_
     refine v_pick hC rfl rfl rfl (b := false) hb3 rfl rfl rfl trivial ?_
     refine v_op hT hC rfl rfl rfl rfl trivial ?_
     refine Vc.nil ?_
     injection h with h
     subst h
     refine m_norm ?_
     apply w_conv hC []
     ·
      exact co
     ·
      rfl
     ·
      decide
     ·
      rfl
   ·
    refine v_off hC rfl rfl rfl rfl hb2 rfl rfl ?_
    refine v_off hC rfl rfl rfl rfl hb2 rfl rfl ?_
    refine v_off hC rfl rfl rfl rfl hb2 rfl rfl ?_
    refine v_off hC rfl rfl rfl rfl hb2 rfl rfl ?_
    refine v_off hC rfl rfl rfl rfl hb2 rfl rfl ?_
    refine v_pick hC rfl rfl rfl (b := false) hb2 rfl rfl rfl trivial ?_
    refine v_op hT hC rfl rfl rfl rfl trivial ?_
    refine v_off hC rfl rfl rfl rfl rfl rfl rfl ?_
    refine v_off hC rfl rfl rfl rfl rfl rfl rfl ?_
    refine v_off hC rfl rfl rfl rfl rfl rfl rfl ?_
    refine v_off hC rfl rfl rfl rfl rfl rfl rfl ?_
    refine v_off hC rfl rfl rfl rfl rfl rfl rfl ?_
    iterate 2 refine v_op hT hC rfl rfl rfl rfl trivial ?_
    refine Vc.nil ?_
    injection h with h
    subst h
    refine m_norm ?_
    apply w_conv hC []
    ·
     exact co
    ·
     rfl
    ·
     decide
    ·
     rfl
  ·
   refine v_off hC rfl rfl rfl rfl hb1 rfl rfl ?_
   refine v_off hC rfl rfl rfl rfl hb1 rfl rfl ?_
   refine v_off hC rfl rfl rfl rfl hb1 rfl rfl ?_
   refine v_pick hC rfl rfl rfl (b := false) hb1 rfl rfl rfl trivial ?_
   refine v_op hT hC rfl rfl rfl rfl trivial ?_
   refine v_off hC rfl rfl rfl rfl rfl rfl rfl ?_
   refine v_off hC rfl rfl rfl rfl rfl rfl rfl ?_
   refine v_off hC rfl rfl rfl rfl rfl rfl rfl ?_
   refine v_off hC rfl rfl rfl rfl rfl rfl rfl ?_
   refine v_off hC rfl rfl rfl rfl rfl rfl rfl ?_
   iterate 2 refine v_op hT hC rfl rfl rfl rfl trivial ?_
   refine v_off hC rfl rfl rfl rfl rfl rfl rfl ?_
   refine v_off hC rfl rfl rfl rfl rfl rfl rfl ?_
   refine v_off hC rfl rfl rfl rfl rfl rfl rfl ?_
   refine v_off hC rfl rfl rfl rfl rfl rfl rfl ?_
   refine v_off hC rfl rfl rfl rfl rfl rfl rfl ?_
   iterate 2 refine v_op hT hC rfl rfl rfl rfl trivial ?_
   refine Vc.nil ?_
   injection h with h
   subst h
   refine m_norm ?_
   apply w_conv hC []
   ·
    exact co
   ·
    rfl
   ·
    decide
   ·
    rfl
 refine aw_ret ?_
 injection h with h
 subst h
 exact ends (Weak.refl _) rfl trivial
def impl_areIn_res (r : Bool) : AV := .sv (.bool r)
def impl_areIn_obs (r : Bool) : Objs := []
theorem impl_areIn_ac {p0 : (List Int)} {p1 : Int} {p2 : Int} {p3 : Int} {r : Bool} (h : impl_areIn p0 p1 p2 p3 = some r) : AC Tryz.prog 52 [.sv (.ints .i64 p0), .sv (.int .i64 p1), .sv (.int .i64 p2), .sv (.int .i64 p3)] [] (impl_areIn_res r) (impl_areIn_obs r) := by
 refine ac_of_body hT Tryz.func52 rfl fun C hC => ?_
 unfold impl_areIn at h
 refine s_reg ?_
 refine v_op hT hC rfl rfl rfl rfl trivial ?_
 refine Vc.nil ?_
 refine s_in ?_
 refine s_reg ?_
 iterate 3 refine v_op hT hC rfl rfl rfl rfl trivial ?_
 refine Vc.nil ?_
 refine live [0, 1, 2, 3, 11, 12, 13] [] (s' := [_, _, _, _, _, _, _]) (o' := []) rfl rfl ?_
 obtain ⟨o8, hl, h⟩ := bnd_some h
 refine s_loopR (fun v3 => ([(13, .sv (.int .i64 v3))], [])) (fun v6 => ([(2, .any), (3, .any), (11, .any), (12, .any), (13, .any)], [])) (fun r => EndsA C T Tryz.f52.results.toList (impl_areIn_res r) (impl_areIn_obs r)) hl ?_ ?_ ?_ ?_
 ·
  apply w_conv hC []
  ·
   exact co
  ·
   rfl
  ·
   decide
  ·
   rfl
 ·
  intro v3 s hs
  have h := hs
  unfold impl_areIn_l2 at h
  refine s_reg ?_
  refine v_op hT hC rfl rfl rfl rfl trivial ?_
  refine Vc.nil ?_
  refine s_in ?_
  rcases sel_some h with ⟨hb5, h⟩ | ⟨hb5, h⟩
  ·
   refine s_true rfl hb5 ?_
   refine aw_skip ?_
   refine t_norm ?_
   refine s_in ?_
   refine s_block ?_
   refine s_reg ?_
   obtain ⟨hq, h⟩ := req_some h
   refine v_op hT hC rfl rfl rfl rfl hq ?_
   iterate 2 refine v_op hT hC rfl rfl rfl rfl trivial ?_
   refine Vc.nil ?_
   refine s_reg ?_
   iterate 3 refine v_op hT hC rfl rfl rfl rfl trivial ?_
   obtain ⟨q7, hq, h⟩ := bnd_some h
   refine v_call hC [] rfl rfl rfl rfl Tryz.call54 (impl_within_ac hq) rfl (by decide) trivial rfl (.inl rfl) rfl ?_
   refine v_op hT hC rfl rfl rfl rfl trivial ?_
   refine Vc.nil ?_
   rcases sel_some h with ⟨hb6, h⟩ | ⟨hb6, h⟩
   ·
    refine s_true rfl hb6 ?_
    refine s_reg ?_
    refine v_op hT hC rfl rfl rfl rfl trivial ?_
    refine Vc.nil ?_
    refine aw_ret ?_
    refine b_ret ?_
    refine t_ret ?_
    injection h with h
    subst h
    refine r_ret ?_
    refine o_ret ?_
    exact ends (Weak.refl _) rfl trivial
   ·
    refine s_false rfl hb6 ?_
    refine aw_skip ?_
    refine b_norm ?_
    refine t_norm ?_
    refine aw_region ?_
    iterate 2 refine v_op hT hC rfl rfl rfl rfl trivial ?_
    refine Vc.nil ?_
    injection h with h
    subst h
    refine r_go ?_
    apply w_conv hC []
    ·
     exact co
    ·
     rfl
    ·
     decide
    ·
     rfl
  ·
   refine s_false rfl hb5 ?_
   refine aw_exit ?_
   refine t_exit ?_
   injection h with h
   subst h
   refine r_exit ?_
   refine o_both ?_
   apply w_conv hC []
   ·
    exact co
   ·
    rfl
   ·
    decide
   ·
    rfl
 ·
  intro v6 e
  subst e
  refine t_norm ?_
  refine s_reg ?_
  iterate 5 refine v_op hT hC rfl rfl rfl rfl trivial ?_
  refine Vc.nil ?_
  refine aw_ret ?_
  injection h with h
  subst h
  exact ends (Weak.refl _) rfl trivial
 ·
  intro r' σ' e hE
  subst e
  injection h with h
  subst h
  refine t_ret ?_
  exact hE
def impl_CondOk_res (r : Bool) : AV := .sv (.bool r)
def impl_CondOk_obs (r : Bool) : Objs := []
theorem impl_CondOk_ac {p0 : Cond} {r : Bool} (h : impl_CondOk p0 = some r) : AC Tryz.prog 53 [.agg [.sv (.bool p0.Key), .sv (.int .i64 p0.Qp), .sv (.bool p0.Large), .sv (.bool p0.Exact)]] [] (impl_CondOk_res r) (impl_CondOk_obs r) := by
 refine ac_of_body hT Tryz.func53 rfl fun C hC => ?_
 unfold impl_CondOk at h
 refine s_reg ?_
 iterate 2 refine v_op hT hC rfl rfl rfl rfl trivial ?_
 refine Vc.nil ?_
 refine live [1, 2] [16] (s' := [_, _]) (o' := [_]) rfl rfl ?_
 obtain ⟨v1, h1, h⟩ := bnd_some h
 refine aw_to ([(2, .sv (.bool v1)), (1, .any)], [(16, none)]) ?_ ?_
 ·
  have h := h1
  refine aw_region ?_
  iterate 2 refine v_op hT hC rfl rfl rfl rfl trivial ?_
  obtain ⟨q2, hq, h⟩ := bnd_some h
  refine v_call hC [] rfl rfl rfl rfl Tryz.call54 (impl_within_ac hq) rfl (by decide) trivial rfl (.inl rfl) rfl ?_
  refine v_op hT hC rfl rfl rfl rfl trivial ?_
  rcases sel_some h with ⟨hb1, h⟩ | ⟨hb1, h⟩
  ·
   iterate 3 refine v_on hT hC rfl rfl rfl rfl hb1 rfl rfl rfl trivial ?_
   rcases sel_some h with ⟨hb2, h⟩ | ⟨hb2, h⟩
   ·
    iterate 2 refine v_on hT hC rfl rfl rfl rfl hb2 rfl rfl rfl trivial ?_
    refine v_pick_on hC rfl rfl rfl rfl hb1 rfl rfl (b := true) hb2 rfl rfl rfl trivial ?_
    refine v_on hT hC rfl rfl rfl rfl hb1 rfl rfl rfl trivial ?_
    refine v_pick hC rfl rfl rfl (b := true) hb1 rfl rfl rfl trivial ?_
    refine v_op hT hC rfl rfl rfl rfl trivial ?_
    refine Vc.nil ?_
    injection h with h
    subst h
    refine m_norm ?_
    apply w_conv hC []
    ·
     exact co
    ·
     rfl
    ·
     decide
    ·
     rfl
   ·
    refine v_off hC rfl rfl rfl rfl hb2 rfl rfl ?_
    refine v_off hC rfl rfl rfl rfl hb2 rfl rfl ?_
    refine v_pick_on hC rfl rfl rfl rfl hb1 rfl rfl (b := false) hb2 rfl rfl rfl trivial ?_
    refine v_on hT hC rfl rfl rfl rfl hb1 rfl rfl rfl trivial ?_
    refine v_pick hC rfl rfl rfl (b := true) hb1 rfl rfl rfl trivial ?_
    refine v_op hT hC rfl rfl rfl rfl trivial ?_
    refine Vc.nil ?_
    injection h with h
    subst h
    refine m_norm ?_
    apply w_conv hC []
    ·
     exact co
    ·
     rfl
    ·
     decide
    ·
     rfl
  ·
   refine v_off hC rfl rfl rfl rfl hb1 rfl rfl ?_
   refine v_off hC rfl rfl rfl rfl hb1 rfl rfl ?_
   refine v_off hC rfl rfl rfl rfl hb1 rfl rfl ?_
   iterate 2 refine v_dead hC rfl rfl rfl rfl rfl rfl ?_
   refine v_off hC rfl rfl rfl rfl hb1 rfl rfl ?_
   refine v_off hC rfl rfl rfl rfl hb1 rfl rfl ?_
   refine v_pick hC rfl rfl rfl (b := false) hb1 rfl rfl rfl trivial ?_
   refine v_op hT hC rfl rfl rfl rfl trivial ?_
   refine Vc.nil ?_
   injection h with h
   subst h
   refine m_norm ?_
   apply w_conv hC []
   ·
    exact co
   ·
    rfl
   ·
    decide
   ·
    rfl
 refine aw_ret ?_
 injection h with h
 subst h
 exact ends (Weak.refl _) rfl trivial
def impl_Brought_res (r : Int) : AV := .sv (.int .i64 r)
def impl_Brought_obs (r : Int) : Objs := []
theorem impl_Brought_ac {p0 : Int} {p1 : Int} {p2 : Int} {r : Int} (h : impl_Brought p0 p1 p2 = some r) : AC Tryz.prog 127 [.sv (.int .i64 p0), .sv (.int .i64 p1), .sv (.int .i64 p2)] [] (impl_Brought_res r) (impl_Brought_obs r) := by
 refine ac_of_body hT Tryz.func127 rfl fun C hC => ?_
 unfold impl_Brought at h
 refine s_reg ?_
 refine v_op hT hC rfl rfl rfl rfl trivial ?_
 refine Vc.nil ?_
 refine s_reg ?_
 iterate 6 refine v_op hT hC rfl rfl rfl rfl trivial ?_
 refine Vc.nil ?_
 refine aw_ret ?_
 injection h with h
 subst h
 exact ends (Weak.refl _) rfl trivial
def impl_Pic_dot_res (r : Int) : AV := .sv (.int .i64 r)
def impl_Pic_dot_obs (r : Int) : Objs := []
theorem impl_Pic_dot_ac {p0 : Pic} {p1 : Int} {p2 : Int} {r : Int} (h : impl_Pic_dot p0 p1 p2 = some r) : AC Tryz.prog 116 [.agg [.sv (.int .i64 p0.Wide), .sv (.int .i64 p0.High), .sv (.str p0.Dots)], .sv (.int .i64 p1), .sv (.int .i64 p2)] [] (impl_Pic_dot_res r) (impl_Pic_dot_obs r) := by
 refine ac_of_body hT Tryz.func116 rfl fun C hC => ?_
 unfold impl_Pic_dot at h
 refine s_reg ?_
 iterate 2 refine v_op hT hC rfl rfl rfl rfl trivial ?_
 refine Vc.nil ?_
 refine s_draw hm ?_
 iterate 6 refine v_op hT hC rfl rfl rfl rfl trivial ?_
 obtain ⟨q1, hq, h⟩ := bnd_some h
 refine v_call hC [] rfl rfl rfl rfl Tryz.call127 (impl_Brought_ac hq) rfl (by decide) trivial rfl (.inl rfl) rfl ?_
 iterate 7 refine v_op hT hC rfl rfl rfl rfl trivial ?_
 obtain ⟨q2, hq, h⟩ := bnd_some h
 refine v_call hC [] rfl rfl rfl rfl Tryz.call127 (impl_Brought_ac hq) rfl (by decide) trivial rfl (.inl rfl) rfl ?_
 refine v_op hT hC rfl rfl rfl rfl trivial ?_
 obtain ⟨hq, h⟩ := req_some h
 refine v_op hT hC rfl rfl rfl rfl hq ?_
 iterate 2 refine v_op hT hC rfl rfl rfl rfl trivial ?_
 refine Vc.nil ⟨by kernel_rfl, ?_⟩
 refine aw_ret ?_
 injection h with h
 subst h
 exact ends (Weak.refl _) rfl trivial
def impl_EdgesOf_res (r : (Edges × Bool)) : AV := .tup [.agg [.own 16, .own 17, .sv (.int .i64 r.1.Corner)], .sv (.bool r.2)]
def impl_EdgesOf_obs (r : (Edges × Bool)) : Objs := [(16, .ints .i64 r.1.Above), (17, .ints .i64 r.1.Left)]
theorem impl_EdgesOf_ac {p0 : Pic} {p1 : Int} {p2 : Int} {r : (Edges × Bool)} (h : impl_EdgesOf p0 p1 p2 = some r) : AC Tryz.prog 55 [.agg [.sv (.int .i64 p0.Wide), .sv (.int .i64 p0.High), .sv (.str p0.Dots)], .sv (.int .i64 p1), .sv (.int .i64 p2)] [] (impl_EdgesOf_res r) (impl_EdgesOf_obs r) := by
 refine ac_of_body hT Tryz.func55 rfl fun C hC => ?_
 unfold impl_EdgesOf at h
 refine s_reg ?_
 iterate 3 refine v_op hT hC rfl rfl rfl rfl trivial ?_
 refine Vc.nil ?_
 refine s_in ?_
 refine live [1, 2, 3, 6] [48, 96] (s' := [_, _, _, _]) (o' := [_, _]) rfl rfl ?_
 obtain ⟨v1, h1, h⟩ := bnd_some h
 refine aw_to ([(19, .sv (.bool v1))], []) ?_ ?_
 ·
  have h := h1
  refine aw_region ?_
  refine v_op hT hC rfl rfl rfl rfl trivial ?_
  obtain ⟨q2, hq, h⟩ := bnd_some h
  refine v_call hC [] rfl rfl rfl rfl Tryz.call50 (impl_PicOk_ac hq) rfl (by decide) trivial rfl (.inl rfl) rfl ?_
  iterate 2 refine v_op hT hC rfl rfl rfl rfl trivial ?_
  rcases sel_some h with ⟨hb1, h⟩ | ⟨hb1, h⟩
  ·
   iterate 3 refine v_on hT hC rfl rfl rfl rfl (congrArg Bool.not hb1) rfl rfl rfl trivial ?_
   obtain ⟨q3, hq, h⟩ := bnd_some h
   refine v_call_on hC [] rfl rfl rfl rfl (congrArg Bool.not hb1) rfl rfl rfl Tryz.call51 (impl_Pic_isSquare_ac hq) rfl (by decide) trivial rfl (.inl rfl) rfl ?_
   refine v_on hT hC rfl rfl rfl rfl (congrArg Bool.not hb1) rfl rfl rfl trivial ?_
   refine v_pick hC rfl rfl rfl (b := false) (congrArg Bool.not hb1) rfl rfl rfl trivial ?_
   refine Vc.nil ?_
   injection h with h
   subst h
   refine m_norm ?_
   apply w_conv hC []
   ·
    exact co
   ·
    rfl
   ·
    decide
   ·
    rfl
  ·
   refine v_off hC rfl rfl rfl rfl (congrArg Bool.not hb1) rfl rfl ?_
   refine v_off hC rfl rfl rfl rfl (congrArg Bool.not hb1) rfl rfl ?_
   refine v_off hC rfl rfl rfl rfl (congrArg Bool.not hb1) rfl rfl ?_
   refine v_off hC rfl rfl rfl rfl (congrArg Bool.not hb1) rfl rfl ?_
   refine v_off hC rfl rfl rfl rfl (congrArg Bool.not hb1) rfl rfl ?_
   refine v_pick hC rfl rfl rfl (b := true) (congrArg Bool.not hb1) rfl rfl rfl trivial ?_
   refine Vc.nil ?_
   injection h with h
   subst h
   refine m_norm ?_
   apply w_conv hC []
   ·
    exact co
   ·
    rfl
   ·
    decide
   ·
    rfl
 rcases sel_some h with ⟨hb2, h⟩ | ⟨hb2, h⟩
 ·
  refine s_true rfl hb2 ?_
  refine s_reg ?_
  iterate 3 refine v_op hT hC rfl rfl rfl rfl trivial ?_
  refine Vc.nil ?_
  refine aw_ret ?_
  refine t_ret ?_
  injection h with h
  subst h
  refine ends (τ := ⟨[(6, .ptr 2000000 0), (7, .sv (.bool false))], [(16, some (.ints .i64 [])), (17, some (.ints .i64 [])), (2000000, some (.box [.own 16, .own 17, .sv (.int .i64 0)]))]⟩) ?_ rfl ⟨rfl, rfl, trivial⟩
  refine w_cell hC 96 0 1105 (.ints .i64 []) rfl rfl rfl rfl rfl trivial ?_
  refine w_cell hC 96 1 1106 (.ints .i64 []) rfl rfl rfl rfl rfl trivial ?_
  apply w_conv hC [(16, 1105), (17, 1106), (2000000, 96)]
  ·
   exact co
  ·
   rfl
  ·
   decide
  ·
   rfl
 ·
  refine s_false rfl hb2 ?_
  refine aw_skip ?_
  refine t_norm ?_
  refine s_reg ?_
  iterate 3 refine v_op hT hC rfl rfl rfl rfl trivial ?_
  refine Vc.nil ?_
  refine s_in ?_
  refine s_reg ?_
  refine v_op hT hC rfl rfl rfl rfl trivial ?_
  refine Vc.nil ?_
  refine live [1, 2, 3, 6, 8, 22] [48, 96, 128] (s' := [_, _, _, _, _, _]) (o' := [_, _, _]) rfl rfl ?_
  obtain ⟨v15, hl, h⟩ := bnd_some h
  refine s_loop (fun v9 => ([(22, .sv (.int .i64 v9.1))], [(128, some (.box [.own 1129, .own 1130, .sv (.int .i64 (-1))])), (1129, some (.ints .i64 v9.2.1)), (1130, some (.ints .i64 v9.2.2))])) (fun v15 => ([(22, .any)], [(128, some (.box [.own 1133, .own 1134, .sv (.int .i64 (-1))])), (1133, some (.ints .i64 v15.1)), (1134, some (.ints .i64 v15.2))])) hl ?_ ?_ ?_
  ·
   refine w_cell hC 128 0 1135 (.ints .i64 []) rfl rfl rfl rfl rfl trivial ?_
   refine w_cell hC 128 1 1136 (.ints .i64 []) rfl rfl rfl rfl rfl trivial ?_
   try dsimp only
   apply w_conv hC [(1129, 1135), (1130, 1136)]
   ·
    exact co
   ·
    rfl
   ·
    decide
   ·
    rfl
  ·
   intro v9 s hs
   have h := hs
   unfold impl_EdgesOf_l2 at h
   refine s_reg ?_
   refine v_op hT hC rfl rfl rfl rfl trivial ?_
   refine Vc.nil ?_
   refine s_in ?_
   rcases sel_some h with ⟨hb9, h⟩ | ⟨hb9, h⟩
   ·
    refine s_true rfl hb9 ?_
    refine aw_skip ?_
    refine t_norm ?_
    refine live [1, 2, 3, 6, 8, 22] [48, 96, 128, 1129, 1130] (s' := [_, _, _, _, _, _]) (o' := [_, _, _, _, _]) rfl rfl ?_
    obtain ⟨v16, h1, h⟩ := bnd_some h
    refine aw_to ([], [(1129, some (.ints .i64 v16.1)), (1130, some (.ints .i64 v16.2))]) ?_ ?_
    ·
     have h := h1
     refine s_block ?_
     refine s_reg ?_
     iterate 2 refine v_op hT hC rfl rfl rfl rfl trivial ?_
     refine Vc.nil ?_
     refine live [1, 2, 3, 6, 8, 9, 22] [48, 96, 128, 1129, 1130] (s' := [_, _, _, _, _, _, _]) (o' := [_, _, _, _, _]) rfl rfl ?_
     obtain ⟨v17, h1, h⟩ := bnd_some h
     refine aw_to ([], [(1129, some (.ints .i64 v17))]) ?_ ?_
     ·
      have h := h1
      refine s_reg ?_
      iterate 2 refine v_op hT hC rfl rfl rfl rfl trivial ?_
      refine Vc.nil ?_
      rcases sel_some h with ⟨hb10, h⟩ | ⟨hb10, h⟩
      ·
       refine s_true rfl hb10 ?_
       refine aw_draw hm ?_
       iterate 8 refine v_op hT hC rfl rfl rfl rfl trivial ?_
       obtain ⟨q18, hq, h⟩ := bnd_some h
       refine v_call hC [] rfl rfl rfl rfl Tryz.call116 (impl_Pic_dot_ac hq) rfl (by decide) trivial rfl (.inl rfl) rfl ?_
       refine v_op hT hC rfl rfl rfl rfl trivial ?_
       obtain ⟨hq, h⟩ := req_some h
       refine v_op hT hC rfl rfl rfl rfl ⟨trivial, hq⟩ ?_
       iterate 2 refine v_op hT hC rfl rfl rfl rfl trivial ?_
       refine Vc.nil ⟨by kernel_rfl, ?_⟩
       injection h with h
       subst h
       refine m_norm ?_
       apply w_conv hC [(1129, 592)]
       ·
        exact co
       ·
        rfl
       ·
        decide
       ·
        rfl
      ·
       refine s_false rfl hb10 ?_
       refine aw_skip ?_
       injection h with h
       subst h
       refine m_norm ?_
       apply w_conv hC []
       ·
        exact co
       ·
        rfl
       ·
        decide
       ·
        rfl
     refine s_reg ?_
     iterate 2 refine v_op hT hC rfl rfl rfl rfl trivial ?_
     refine Vc.nil ?_
     rcases sel_some h with ⟨hb11, h⟩ | ⟨hb11, h⟩
     ·
      refine s_true rfl hb11 ?_
      refine aw_draw hm ?_
      iterate 8 refine v_op hT hC rfl rfl rfl rfl trivial ?_
      obtain ⟨q19, hq, h⟩ := bnd_some h
      refine v_call hC [] rfl rfl rfl rfl Tryz.call116 (impl_Pic_dot_ac hq) rfl (by decide) trivial rfl (.inl rfl) rfl ?_
      refine v_op hT hC rfl rfl rfl rfl trivial ?_
      obtain ⟨hq, h⟩ := req_some h
      refine v_op hT hC rfl rfl rfl rfl ⟨trivial, hq⟩ ?_
      iterate 2 refine v_op hT hC rfl rfl rfl rfl trivial ?_
      refine Vc.nil ⟨by kernel_rfl, ?_⟩
      refine b_norm ?_
      injection h with h
      subst h
      refine m_norm ?_
      try dsimp only
      apply w_conv hC [(1130, 816)]
      ·
       exact co
      ·
       rfl
      ·
       decide
      ·
       rfl
     ·
      refine s_false rfl hb11 ?_
      refine aw_skip ?_
      refine b_norm ?_
      injection h with h
      subst h
      refine m_norm ?_
      try dsimp only
      apply w_conv hC []
      ·
       exact co
      ·
       rfl
      ·
       decide
      ·
       rfl
    refine aw_region ?_
    iterate 2 refine v_op hT hC rfl rfl rfl rfl trivial ?_
    refine Vc.nil ?_
    injection h with h
    subst h
    refine r_go ?_
    try dsimp only
    apply w_conv hC []
    ·
     exact co
    ·
     rfl
    ·
     decide
    ·
     rfl
   ·
    refine s_false rfl hb9 ?_
    refine aw_exit ?_
    refine t_exit ?_
    injection h with h
    subst h
    refine r_exit ?_
    refine o_out ?_
    try dsimp only
    apply w_conv hC [(1133, 1129), (1134, 1130)]
    ·
     exact co
    ·
     rfl
    ·
     decide
    ·
     rfl
  refine t_norm ?_
  refine live [1, 2, 3, 6, 8] [48, 96, 128, 1133, 1134] (s' := [_, _, _, _, _]) (o' := [_, _, _, _, _]) rfl rfl ?_
  obtain ⟨v21, h1, h⟩ := bnd_some h
  refine aw_to ([(1, .any), (2, .any), (3, .any)], [(128, some (.box [.own 1133, .own 1134, .sv (.int .i64 v21)])), (48, none)]) ?_ ?_
  ·
   have h := h1
   refine live [1, 2, 3, 6, 8] [48, 96, 128, 1133, 1134] (s' := [_, _, _, _, _]) (o' := [_, _, _, _, _]) rfl rfl ?_
   obtain ⟨v22, h1, h⟩ := bnd_some h
   refine aw_to ([(59, .sv (.bool v22))], []) ?_ ?_
   ·
    have h := h1
    refine aw_region ?_
    iterate 3 refine v_op hT hC rfl rfl rfl rfl trivial ?_
    rcases sel_some h with ⟨hb12, h⟩ | ⟨hb12, h⟩
    ·
     iterate 2 refine v_on hT hC rfl rfl rfl rfl hb12 rfl rfl rfl trivial ?_
     refine v_pick hC rfl rfl rfl (b := true) hb12 rfl rfl rfl trivial ?_
     refine Vc.nil ?_
     injection h with h
     subst h
     refine m_norm ?_
     apply w_conv hC []
     ·
      exact co
     ·
      rfl
     ·
      decide
     ·
      rfl
    ·
     refine v_off hC rfl rfl rfl rfl hb12 rfl rfl ?_
     refine v_off hC rfl rfl rfl rfl hb12 rfl rfl ?_
     refine v_pick hC rfl rfl rfl (b := false) hb12 rfl rfl rfl trivial ?_
     refine Vc.nil ?_
     injection h with h
     subst h
     refine m_norm ?_
     apply w_conv hC []
     ·
      exact co
     ·
      rfl
     ·
      decide
     ·
      rfl
   rcases sel_some h with ⟨hb13, h⟩ | ⟨hb13, h⟩
   ·
    refine s_true rfl hb13 ?_
    refine aw_region ?_
    iterate 5 refine v_op hT hC rfl rfl rfl rfl trivial ?_
    obtain ⟨q23, hq, h⟩ := bnd_some h
    refine v_call hC [] rfl rfl rfl rfl Tryz.call116 (impl_Pic_dot_ac hq) rfl (by decide) trivial rfl (.inl rfl) rfl ?_
    iterate 2 refine v_op hT hC rfl rfl rfl rfl trivial ?_
    refine Vc.nil ?_
    injection h with h
    subst h
    refine m_norm ?_
    apply w_conv hC []
    ·
     exact co
    ·
     rfl
    ·
     decide
    ·
     rfl
   ·
    refine s_false rfl hb13 ?_
    refine aw_skip ?_
    injection h with h
    subst h
    refine m_norm ?_
    apply w_conv hC []
    ·
     exact co
    ·
     rfl
    ·
     decide
    ·
     rfl
  refine s_reg ?_
  iterate 3 refine v_op hT hC rfl rfl rfl rfl trivial ?_
  refine Vc.nil ?_
  refine aw_ret ?_
  injection h with h
  subst h
  refine ends (τ := ⟨[(6, .ptr 2000000 0), (7, .sv (.bool true))], [(16, some (.ints .i64 v15.1)), (17, some (.ints .i64 v15.2)), (2000000, some (.box [.own 16, .own 17, .sv (.int .i64 v21)]))]⟩) ?_ rfl ⟨rfl, rfl, trivial⟩
  apply w_conv hC [(16, 1133), (17, 1134), (2000000, 96)]
  ·
   exact co
  ·
   rfl
  ·
   decide
  ·
   rfl
def impl_EdgesOk_res (r : Bool) : AV := .sv (.bool r)
def impl_EdgesOk_obs (r : Bool) : Objs := []
theorem impl_EdgesOk_ac {p0 : Edges} {r : Bool} (h : impl_EdgesOk p0 = some r) : AC Tryz.prog 117 [.agg [.sv (.ints .i64 p0.Above), .sv (.ints .i64 p0.Left), .sv (.int .i64 p0.Corner)]] [] (impl_EdgesOk_res r) (impl_EdgesOk_obs r) := by
 refine ac_of_body hT Tryz.func117 rfl fun C hC => ?_
 unfold impl_EdgesOk at h
 refine s_reg ?_
 iterate 2 refine v_op hT hC rfl rfl rfl rfl trivial ?_
 refine Vc.nil ?_
 refine s_in ?_
 refine s_reg ?_
 iterate 7 refine v_op hT hC rfl rfl rfl rfl trivial ?_
 refine Vc.nil ?_
 refine live [1, 9, 10, 11] [16, 144] (s' := [_, _, _, _]) (o' := [_, _]) rfl rfl ?_
 obtain ⟨o11, hl, h⟩ := bnd_some h
 refine s_loopR (fun v4 => ([(11, .sv (.int .i64 v4))], [])) (fun v8 => ([(9, .any), (10, .any), (11, .any)], [(144, none)])) (fun r => EndsA C T Tryz.f117.results.toList (impl_EdgesOk_res r) (impl_EdgesOk_obs r)) hl ?_ ?_ ?_ ?_
 ·
  apply w_conv hC []
  ·
   exact co
  ·
   rfl
  ·
   decide
  ·
   rfl
 ·
  intro v4 s hs
  have h := hs
  unfold impl_EdgesOk_l2 at h
  refine s_reg ?_
  refine v_op hT hC rfl rfl rfl rfl trivial ?_
  refine Vc.nil ?_
  refine s_in ?_
  rcases sel_some h with ⟨hb7, h⟩ | ⟨hb7, h⟩
  ·
   refine s_true rfl hb7 ?_
   refine aw_skip ?_
   refine t_norm ?_
   refine s_in ?_
   refine s_block ?_
   refine s_reg ?_
   obtain ⟨hq, h⟩ := req_some h
   refine v_op hT hC rfl rfl rfl rfl hq ?_
   obtain ⟨hq, h⟩ := req_some h
   refine v_op hT hC rfl rfl rfl rfl hq ?_
   refine v_op hT hC rfl rfl rfl rfl trivial ?_
   refine Vc.nil ?_
   refine live [1, 4, 9, 10, 11] [16, 144] (s' := [_, _, _, _, _]) (o' := [_, _]) rfl rfl ?_
   obtain ⟨v9, h1, h⟩ := bnd_some h
   refine aw_to ([(22, .sv (.bool v9)), (4, .any)], []) ?_ ?_
   ·
    have h := h1
    refine aw_region ?_
    iterate 4 refine v_op hT hC rfl rfl rfl rfl trivial ?_
    rcases sel_some h with ⟨hb8, h⟩ | ⟨hb8, h⟩
    ·
     refine v_on hT hC rfl rfl rfl rfl hb8 rfl rfl rfl trivial ?_
     obtain ⟨q10, hq, h⟩ := bnd_some h
     refine v_call_on hC [] rfl rfl rfl rfl hb8 rfl rfl rfl Tryz.call52 (impl_areIn_ac hq) rfl (by decide) trivial rfl (.inl rfl) rfl ?_
     refine v_on hT hC rfl rfl rfl rfl hb8 rfl rfl rfl trivial ?_
     refine v_pick hC rfl rfl rfl (b := true) hb8 rfl rfl rfl trivial ?_
     refine Vc.nil ?_
     injection h with h
     subst h
     refine m_norm ?_
     apply w_conv hC []
     ·
      exact co
     ·
      rfl
     ·
      decide
     ·
      rfl
    ·
     refine v_off hC rfl rfl rfl rfl hb8 rfl rfl ?_
     refine v_off hC rfl rfl rfl rfl hb8 rfl rfl ?_
     refine v_off hC rfl rfl rfl rfl hb8 rfl rfl ?_
     refine v_pick hC rfl rfl rfl (b := false) hb8 rfl rfl rfl trivial ?_
     refine Vc.nil ?_
     injection h with h
     subst h
     refine m_norm ?_
     apply w_conv hC []
     ·
      exact co
     ·
      rfl
     ·
      decide
     ·
      rfl
   rcases sel_some h with ⟨hb9, h⟩ | ⟨hb9, h⟩
   ·
    refine s_true rfl hb9 ?_
    refine s_reg ?_
    refine v_op hT hC rfl rfl rfl rfl trivial ?_
    refine Vc.nil ?_
    refine aw_ret ?_
    refine b_ret ?_
    refine t_ret ?_
    injection h with h
    subst h
    refine r_ret ?_
    refine o_ret ?_
    exact ends (Weak.refl _) rfl trivial
   ·
    refine s_false rfl hb9 ?_
    refine aw_skip ?_
    refine b_norm ?_
    refine t_norm ?_
    refine aw_region ?_
    iterate 2 refine v_op hT hC rfl rfl rfl rfl trivial ?_
    refine Vc.nil ?_
    injection h with h
    subst h
    refine r_go ?_
    apply w_conv hC []
    ·
     exact co
    ·
     rfl
    ·
     decide
    ·
     rfl
  ·
   refine s_false rfl hb7 ?_
   refine aw_exit ?_
   refine t_exit ?_
   injection h with h
   subst h
   refine r_exit ?_
   refine o_both ?_
   apply w_conv hC []
   ·
    exact co
   ·
    rfl
   ·
    decide
   ·
    rfl
 ·
  intro v8 e
  subst e
  refine t_norm ?_
  refine s_reg ?_
  iterate 2 refine v_op hT hC rfl rfl rfl rfl trivial ?_
  obtain ⟨q12, hq, h⟩ := bnd_some h
  refine v_call hC [] rfl rfl rfl rfl Tryz.call54 (impl_within_ac hq) rfl (by decide) trivial rfl (.inl rfl) rfl ?_
  refine v_op hT hC rfl rfl rfl rfl trivial ?_
  refine Vc.nil ?_
  refine aw_ret ?_
  injection h with h
  subst h
  exact ends (Weak.refl _) rfl trivial
 ·
  intro r' σ' e hE
  subst e
  injection h with h
  subst h
  refine t_ret ?_
  exact hE
def impl_sumOf_res (r : Int) : AV := .sv (.int .i64 r)
def impl_sumOf_obs (r : Int) : Objs := []
theorem impl_sumOf_ac {p0 : (List Int)} {r : Int} (h : impl_sumOf p0 = some r) : AC Tryz.prog 125 [.sv (.ints .i64 p0)] [] (impl_sumOf_res r) (impl_sumOf_obs r) := by
 refine ac_of_body hT Tryz.func125 rfl fun C hC => ?_
 unfold impl_sumOf at h
 refine s_reg ?_
 refine v_op hT hC rfl rfl rfl rfl trivial ?_
 refine Vc.nil ?_
 refine s_reg ?_
 refine v_op hT hC rfl rfl rfl rfl trivial ?_
 refine Vc.nil ?_
 refine s_in ?_
 refine s_reg ?_
 iterate 3 refine v_op hT hC rfl rfl rfl rfl trivial ?_
 refine Vc.nil ?_
 refine live [3, 6, 7, 8] [] (s' := [_, _, _, _]) (o' := []) rfl rfl ?_
 obtain ⟨v4, hl, h⟩ := bnd_some h
 refine s_loop (fun v2 => ([(3, .sv (.int .i64 v2.1)), (8, .sv (.int .i64 v2.2))], [])) (fun v4 => ([(3, .sv (.int .i64 v4)), (6, .any), (7, .any), (8, .any)], [])) hl ?_ ?_ ?_
 ·
  try dsimp only
  apply w_conv hC []
  ·
   exact co
  ·
   rfl
  ·
   decide
  ·
   rfl
 ·
  intro v2 s hs
  have h := hs
  unfold impl_sumOf_l2 at h
  refine s_reg ?_
  refine v_op hT hC rfl rfl rfl rfl trivial ?_
  refine Vc.nil ?_
  refine s_in ?_
  rcases sel_some h with ⟨hb3, h⟩ | ⟨hb3, h⟩
  ·
   refine s_true rfl hb3 ?_
   refine aw_skip ?_
   refine t_norm ?_
   refine s_in ?_
   refine s_block ?_
   refine s_reg ?_
   obtain ⟨hq, h⟩ := req_some h
   refine v_op hT hC rfl rfl rfl rfl hq ?_
   iterate 2 refine v_op hT hC rfl rfl rfl rfl trivial ?_
   refine Vc.nil ?_
   refine aw_region ?_
   iterate 4 refine v_op hT hC rfl rfl rfl rfl trivial ?_
   refine Vc.nil ?_
   refine b_norm ?_
   refine t_norm ?_
   refine aw_region ?_
   iterate 2 refine v_op hT hC rfl rfl rfl rfl trivial ?_
   refine Vc.nil ?_
   injection h with h
   subst h
   refine r_go ?_
   try dsimp only
   apply w_conv hC []
   ·
    exact co
   ·
    rfl
   ·
    decide
   ·
    rfl
  ·
   refine s_false rfl hb3 ?_
   refine aw_exit ?_
   refine t_exit ?_
   injection h with h
   subst h
   refine r_exit ?_
   refine o_out ?_
   apply w_conv hC []
   ·
    exact co
   ·
    rfl
   ·
    decide
   ·
    rfl
 refine t_norm ?_
 refine s_reg ?_
 iterate 2 refine v_op hT hC rfl rfl rfl rfl trivial ?_
 refine Vc.nil ?_
 refine aw_ret ?_
 injection h with h
 subst h
 exact ends (Weak.refl _) rfl trivial
def impl_orGrey_res (r : (List Int)) : AV := .sv (.ints .i64 r)
def impl_orGrey_obs (r : (List Int)) : Objs := []
theorem impl_orGrey_ac {p0 : (List Int)} {r : (List Int)} (h : impl_orGrey p0 = some r) : AC Tryz.prog 126 [.sv (.ints .i64 p0)] [] (impl_orGrey_res r) (impl_orGrey_obs r) := by
 refine ac_of_body hT Tryz.func126 rfl fun C hC => ?_
 unfold impl_orGrey at h
 refine s_reg ?_
 refine v_op hT hC rfl rfl rfl rfl trivial ?_
 refine Vc.nil ?_
 refine s_in ?_
 refine s_reg ?_
 iterate 3 refine v_op hT hC rfl rfl rfl rfl trivial ?_
 refine Vc.nil ?_
 rcases sel_some h with ⟨hb1, h⟩ | ⟨hb1, h⟩
 ·
  refine s_true rfl hb1 ?_
  refine s_reg ?_
  iterate 2 refine v_op hT hC rfl rfl rfl rfl trivial ?_
  refine Vc.nil ?_
  refine aw_ret ?_
  refine t_ret ?_
  injection h with h
  subst h
  refine ends (τ := ⟨[(2, .sv (.ints .i64 ([128, 128, 128, 128, 128, 128, 128, 128])))], []⟩) ?_ rfl trivial
  apply w_conv hC []
  ·
   exact co
  ·
   rfl
  ·
   decide
  ·
   rfl
 ·
  refine s_false rfl hb1 ?_
  refine aw_skip ?_
  refine t_norm ?_
  refine s_reg ?_
  iterate 2 refine v_op hT hC rfl rfl rfl rfl trivial ?_
  refine Vc.nil ?_
  refine aw_ret ?_
  injection h with h
  subst h
  exact ends (Weak.refl _) rfl trivial
def impl_GuessOf_res (r : (List Int)) : AV := .own 16
def impl_GuessOf_obs (r : (List Int)) : Objs := [(16, .ints .i64 r)]
theorem impl_GuessOf_ac {p0 : Int} {p1 : Edges} {r : (List Int)} (h : impl_GuessOf p0 p1 = some r) : AC Tryz.prog 59 [.sv (.int .i64 p0), .agg [.sv (.ints .i64 p1.Above), .sv (.ints .i64 p1.Left), .sv (.int .i64 p1.Corner)]] [] (impl_GuessOf_res r) (impl_GuessOf_obs r) := by
 refine ac_of_body hT Tryz.func59 rfl fun C hC => ?_
 unfold impl_GuessOf at h
 refine s_reg ?_
 iterate 2 refine v_op hT hC rfl rfl rfl rfl trivial ?_
 refine Vc.nil ?_
 refine s_reg ?_
 iterate 2 refine v_op hT hC rfl rfl rfl rfl trivial ?_
 refine Vc.nil ?_
 refine s_in ?_
 refine live [0, 3, 5] [48, 208] (s' := [_, _, _]) (o' := [_, _]) rfl rfl ?_
 obtain ⟨v1, h1, h⟩ := bnd_some h
 refine aw_to ([(21, .sv (.bool v1))], []) ?_ ?_
 ·
  have h := h1
  refine aw_region ?_
  refine v_op hT hC rfl rfl rfl rfl trivial ?_
  obtain ⟨q2, hq, h⟩ := bnd_some h
  refine v_call hC [] rfl rfl rfl rfl Tryz.call117 (impl_EdgesOk_ac hq) rfl (by decide) trivial rfl (.inl rfl) rfl ?_
  iterate 2 refine v_op hT hC rfl rfl rfl rfl trivial ?_
  rcases sel_some h with ⟨hb1, h⟩ | ⟨hb1, h⟩
  ·
   refine v_on hT hC rfl rfl rfl rfl (congrArg Bool.not hb1) rfl rfl rfl trivial ?_
   obtain ⟨q3, hq, h⟩ := bnd_some h
   refine v_call_on hC [] rfl rfl rfl rfl (congrArg Bool.not hb1) rfl rfl rfl Tryz.call54 (impl_within_ac hq) rfl (by decide) trivial rfl (.inl rfl) rfl ?_
   refine v_on hT hC rfl rfl rfl rfl (congrArg Bool.not hb1) rfl rfl rfl trivial ?_
   refine v_pick hC rfl rfl rfl (b := false) (congrArg Bool.not hb1) rfl rfl rfl trivial ?_
   refine Vc.nil ?_
   injection h with h
   subst h
   refine m_norm ?_
   apply w_conv hC []
   ·
    exact co
   ·
    rfl
   ·
    decide
   ·
    rfl
  ·
   refine v_off hC rfl rfl rfl rfl (congrArg Bool.not hb1) rfl rfl ?_
   refine v_off hC rfl rfl rfl rfl (congrArg Bool.not hb1) rfl rfl ?_
   refine v_off hC rfl rfl rfl rfl (congrArg Bool.not hb1) rfl rfl ?_
   refine v_pick hC rfl rfl rfl (b := true) (congrArg Bool.not hb1) rfl rfl rfl trivial ?_
   refine Vc.nil ?_
   injection h with h
   subst h
   refine m_norm ?_
   apply w_conv hC []
   ·
    exact co
   ·
    rfl
   ·
    decide
   ·
    rfl
 rcases sel_some h with ⟨hb2, h⟩ | ⟨hb2, h⟩
 ·
  refine s_true rfl hb2 ?_
  refine s_reg ?_
  iterate 2 refine v_op hT hC rfl rfl rfl rfl trivial ?_
  refine Vc.nil ?_
  refine aw_ret ?_
  refine t_ret ?_
  injection h with h
  subst h
  refine ends (τ := ⟨[(4, .own 16)], [(16, some (.ints .i64 ([] : List Int)))]⟩) ?_ rfl ⟨rfl, trivial⟩
  apply w_conv hC [(16, 208)]
  ·
   exact co
  ·
   rfl
  ·
   decide
  ·
   rfl
 ·
  refine s_false rfl hb2 ?_
  refine aw_skip ?_
  refine t_norm ?_
  refine s_reg ?_
  refine v_op hT hC rfl rfl rfl rfl trivial ?_
  refine Vc.nil ?_
  refine live [0, 3, 5, 6] [48, 208] (s' := [_, _, _, _]) (o' := [_, _]) rfl rfl ?_
  obtain ⟨v4, h1, h⟩ := bnd_some h
  refine aw_to ([(6, .sv (.int .i64 v4))], []) ?_ ?_
  ·
   have h := h1
   refine s_reg ?_
   iterate 8 refine v_op hT hC rfl rfl rfl rfl trivial ?_
   refine Vc.nil ?_
   refine s_reg ?_
   iterate 2 refine v_op hT hC rfl rfl rfl rfl trivial ?_
   refine Vc.nil ?_
   rcases sel_some h with ⟨hb3, h⟩ | ⟨hb3, h⟩
   ·
    refine s_true rfl hb3 ?_
    refine aw_draw hm ?_
    iterate 2 refine v_op hT hC rfl rfl rfl rfl trivial ?_
    obtain ⟨q5, hq, h⟩ := bnd_some h
    refine v_call hC [] rfl rfl rfl rfl Tryz.call125 (impl_sumOf_ac hq) rfl (by decide) trivial rfl (.inl rfl) rfl ?_
    iterate 2 refine v_op hT hC rfl rfl rfl rfl trivial ?_
    obtain ⟨q6, hq, h⟩ := bnd_some h
    refine v_call hC [] rfl rfl rfl rfl Tryz.call125 (impl_sumOf_ac hq) rfl (by decide) trivial rfl (.inl rfl) rfl ?_
    iterate 2 refine v_op hT hC rfl rfl rfl rfl trivial ?_
    obtain ⟨hq, h⟩ := req_some h
    refine v_op hT hC rfl rfl rfl rfl hq ?_
    iterate 2 refine v_op hT hC rfl rfl rfl rfl trivial ?_
    obtain ⟨hq, h⟩ := req_some h
    refine v_op hT hC rfl rfl rfl rfl hq ?_
    refine v_op hT hC rfl rfl rfl rfl trivial ?_
    refine Vc.nil ⟨by kernel_rfl, ?_⟩
    injection h with h
    subst h
    refine m_norm ?_
    apply w_conv hC []
    ·
     exact co
    ·
     rfl
    ·
     decide
    ·
     rfl
   ·
    refine s_false rfl hb3 ?_
    refine aw_skip ?_
    injection h with h
    subst h
    refine m_norm ?_
    apply w_conv hC []
    ·
     exact co
    ·
     rfl
    ·
     decide
    ·
     rfl
  refine s_draw hm ?_
  iterate 2 refine v_op hT hC rfl rfl rfl rfl trivial ?_
  obtain ⟨q7, hq, h⟩ := bnd_some h
  refine v_call hC [] rfl rfl rfl rfl Tryz.call126 (impl_orGrey_ac hq) rfl (by decide) trivial rfl (.inl rfl) rfl ?_
  iterate 2 refine v_op hT hC rfl rfl rfl rfl trivial ?_
  obtain ⟨q8, hq, h⟩ := bnd_some h
  refine v_call hC [] rfl rfl rfl rfl Tryz.call126 (impl_orGrey_ac hq) rfl (by decide) trivial rfl (.inl rfl) rfl ?_
  iterate 5 refine v_op hT hC rfl rfl rfl rfl trivial ?_
  refine Vc.nil ⟨by kernel_rfl, ?_⟩
  refine live [0, 5, 6, 8, 9, 10] [208] (s' := [_, _, _, _, _, _]) (o' := [_]) rfl rfl ?_
  obtain ⟨v9, h1, h⟩ := bnd_some h
  refine aw_to ([(10, .sv (.int .i64 v9))], []) ?_ ?_
  ·
   have h := h1
   refine s_reg ?_
   iterate 2 refine v_op hT hC rfl rfl rfl rfl trivial ?_
   refine Vc.nil ?_
   rcases sel_some h with ⟨hb4, h⟩ | ⟨hb4, h⟩
   ·
    refine s_true rfl hb4 ?_
    refine aw_region ?_
    refine v_op hT hC rfl rfl rfl rfl trivial ?_
    refine Vc.nil ?_
    injection h with h
    subst h
    refine m_norm ?_
    apply w_conv hC []
    ·
     exact co
    ·
     rfl
    ·
     decide
    ·
     rfl
   ·
    refine s_false rfl hb4 ?_
    refine aw_skip ?_
    injection h with h
    subst h
    refine m_norm ?_
    apply w_conv hC []
    ·
     exact co
    ·
     rfl
    ·
     decide
    ·
     rfl
  refine s_in ?_
  refine s_reg ?_
  refine v_op hT hC rfl rfl rfl rfl trivial ?_
  refine Vc.nil ?_
  refine live [0, 5, 6, 8, 9, 10, 54] [208] (s' := [_, _, _, _, _, _, _]) (o' := [_]) rfl rfl ?_
  obtain ⟨v35, hl, h⟩ := bnd_some h
  refine s_loop (fun v22 => ([(54, .sv (.int .i64 v22.1))], [(208, some (.ints .i64 v22.2))])) (fun v35 => ([(0, .any), (6, .any), (8, .any), (9, .any), (10, .any), (54, .any)], [(208, some (.ints .i64 v35))])) hl ?_ ?_ ?_
  ·
   try dsimp only
   apply w_conv hC []
   ·
    exact co
   ·
    rfl
   ·
    decide
   ·
    rfl
  ·
   intro v22 s hs
   have h := hs
   unfold impl_GuessOf_l12 at h
   refine s_reg ?_
   refine v_op hT hC rfl rfl rfl rfl trivial ?_
   refine Vc.nil ?_
   refine s_in ?_
   rcases sel_some h with ⟨hb31, h⟩ | ⟨hb31, h⟩
   ·
    refine s_true rfl hb31 ?_
    refine aw_skip ?_
    refine t_norm ?_
    refine s_in ?_
    refine s_block ?_
    refine s_reg ?_
    iterate 2 refine v_op hT hC rfl rfl rfl rfl trivial ?_
    refine Vc.nil ?_
    refine s_reg ?_
    refine v_op hT hC rfl rfl rfl rfl trivial ?_
    refine Vc.nil ?_
    refine live [0, 5, 6, 8, 9, 10, 11, 54, 57] [208] (s' := [_, _, _, _, _, _, _, _, _]) (o' := [_]) rfl rfl ?_
    obtain ⟨v43, hl, h⟩ := bnd_some h
    refine s_loop (fun v39 => ([(57, .sv (.int .i64 v39.1))], [(208, some (.ints .i64 v39.2))])) (fun v43 => ([(11, .any), (57, .any)], [(208, some (.ints .i64 v43))])) hl ?_ ?_ ?_
    ·
     try dsimp only
     apply w_conv hC []
     ·
      exact co
     ·
      rfl
     ·
      decide
     ·
      rfl
    ·
     intro v39 s hs
     have h := hs
     unfold impl_GuessOf_l14 at h
     refine s_reg ?_
     refine v_op hT hC rfl rfl rfl rfl trivial ?_
     refine Vc.nil ?_
     refine s_in ?_
     rcases sel_some h with ⟨hb40, h⟩ | ⟨hb40, h⟩
     ·
      refine s_true rfl hb40 ?_
      refine aw_skip ?_
      refine t_norm ?_
      refine live [0, 5, 6, 8, 9, 10, 11, 54, 57] [208] (s' := [_, _, _, _, _, _, _, _, _]) (o' := [_]) rfl rfl ?_
      obtain ⟨v44, h1, h⟩ := bnd_some h
      refine aw_to ([(5, .own 1700)], [(1700, some (.ints .i64 v44)), (208, none)]) ?_ ?_
      ·
       have h := h1
       refine s_block ?_
       refine s_reg ?_
       iterate 2 refine v_op hT hC rfl rfl rfl rfl trivial ?_
       refine Vc.nil ?_
       refine s_reg ?_
       refine v_op hT hC rfl rfl rfl rfl trivial ?_
       refine Vc.nil ?_
       refine s_block ?_
       refine s_reg ?_
       iterate 2 refine v_op hT hC rfl rfl rfl rfl trivial ?_
       refine Vc.nil ?_
       rcases sel_some h with ⟨hb41, h⟩ | ⟨hb41, h⟩
       ·
        refine s_true rfl hb41 ?_
        refine aw_region ?_
        iterate 3 refine v_op hT hC rfl rfl rfl rfl trivial ?_
        obtain ⟨hq, h⟩ := req_some h
        refine v_op hT hC rfl rfl rfl rfl ⟨trivial, hq⟩ ?_
        refine v_op hT hC rfl rfl rfl rfl trivial ?_
        refine Vc.nil ?_
        refine b_norm ?_
        refine b_norm ?_
        injection h with h
        subst h
        refine m_norm ?_
        apply w_conv hC [(1700, 1296)]
        ·
         exact co
        ·
         rfl
        ·
         decide
        ·
         rfl
       ·
        refine s_false rfl hb41 ?_
        refine s_reg ?_
        iterate 2 refine v_op hT hC rfl rfl rfl rfl trivial ?_
        refine Vc.nil ?_
        rcases sel_some h with ⟨hb42, h⟩ | ⟨hb42, h⟩
        ·
         refine s_true rfl hb42 ?_
         refine aw_region ?_
         iterate 3 refine v_op hT hC rfl rfl rfl rfl trivial ?_
         obtain ⟨hq, h⟩ := req_some h
         refine v_op hT hC rfl rfl rfl rfl hq ?_
         iterate 2 refine v_op hT hC rfl rfl rfl rfl trivial ?_
         obtain ⟨hq, h⟩ := req_some h
         refine v_op hT hC rfl rfl rfl rfl ⟨trivial, hq⟩ ?_
         refine v_op hT hC rfl rfl rfl rfl trivial ?_
         refine Vc.nil ?_
         refine b_norm ?_
         refine b_norm ?_
         injection h with h
         subst h
         refine m_norm ?_
         apply w_conv hC [(1700, 1440)]
         ·
          exact co
         ·
          rfl
         ·
          decide
         ·
          rfl
        ·
         refine s_false rfl hb42 ?_
         refine s_reg ?_
         iterate 2 refine v_op hT hC rfl rfl rfl rfl trivial ?_
         refine Vc.nil ?_
         rcases sel_some h with ⟨hb43, h⟩ | ⟨hb43, h⟩
         ·
          refine s_true rfl hb43 ?_
          refine aw_region ?_
          iterate 3 refine v_op hT hC rfl rfl rfl rfl trivial ?_
          obtain ⟨hq, h⟩ := req_some h
          refine v_op hT hC rfl rfl rfl rfl hq ?_
          iterate 2 refine v_op hT hC rfl rfl rfl rfl trivial ?_
          obtain ⟨hq, h⟩ := req_some h
          refine v_op hT hC rfl rfl rfl rfl ⟨trivial, hq⟩ ?_
          refine v_op hT hC rfl rfl rfl rfl trivial ?_
          refine Vc.nil ?_
          refine b_norm ?_
          refine b_norm ?_
          injection h with h
          subst h
          refine m_norm ?_
          apply w_conv hC [(1700, 1584)]
          ·
           exact co
          ·
           rfl
          ·
           decide
          ·
           rfl
         ·
          refine s_false rfl hb43 ?_
          refine aw_draw hm ?_
          iterate 3 refine v_op hT hC rfl rfl rfl rfl trivial ?_
          obtain ⟨hq, h⟩ := req_some h
          refine v_op hT hC rfl rfl rfl rfl hq ?_
          iterate 3 refine v_op hT hC rfl rfl rfl rfl trivial ?_
          obtain ⟨hq, h⟩ := req_some h
          refine v_op hT hC rfl rfl rfl rfl hq ?_
          iterate 4 refine v_op hT hC rfl rfl rfl rfl trivial ?_
          obtain ⟨q45, hq, h⟩ := bnd_some h
          refine v_call hC [] rfl rfl rfl rfl Tryz.call127 (impl_Brought_ac hq) rfl (by decide) trivial rfl (.inl rfl) rfl ?_
          refine v_op hT hC rfl rfl rfl rfl trivial ?_
          obtain ⟨hq, h⟩ := req_some h
          refine v_op hT hC rfl rfl rfl rfl ⟨trivial, hq⟩ ?_
          refine v_op hT hC rfl rfl rfl rfl trivial ?_
          refine Vc.nil ⟨by kernel_rfl, ?_⟩
          refine b_norm ?_
          refine b_norm ?_
          injection h with h
          subst h
          refine m_norm ?_
          apply w_conv hC [(1700, 1200)]
          ·
           exact co
          ·
           rfl
          ·
           decide
          ·
           rfl
      refine aw_region ?_
      iterate 2 refine v_op hT hC rfl rfl rfl rfl trivial ?_
      refine Vc.nil ?_
      injection h with h
      subst h
      refine r_go ?_
      try dsimp only
      apply w_conv hC [(208, 1700)]
      ·
       exact co
      ·
       rfl
      ·
       decide
      ·
       rfl
     ·
      refine s_false rfl hb40 ?_
      refine aw_exit ?_
      refine t_exit ?_
      injection h with h
      subst h
      refine r_exit ?_
      refine o_out ?_
      apply w_conv hC []
      ·
       exact co
      ·
       rfl
      ·
       decide
      ·
       rfl
    refine b_norm ?_
    refine t_norm ?_
    refine aw_region ?_
    iterate 2 refine v_op hT hC rfl rfl rfl rfl trivial ?_
    refine Vc.nil ?_
    injection h with h
    subst h
    refine r_go ?_
    try dsimp only
    apply w_conv hC []
    ·
     exact co
    ·
     rfl
    ·
     decide
    ·
     rfl
   ·
    refine s_false rfl hb31 ?_
    refine aw_exit ?_
    refine t_exit ?_
    injection h with h
    subst h
    refine r_exit ?_
    refine o_out ?_
    apply w_conv hC []
    ·
     exact co
    ·
     rfl
    ·
     decide
    ·
     rfl
  refine t_norm ?_
  refine s_reg ?_
  iterate 2 refine v_op hT hC rfl rfl rfl rfl trivial ?_
  refine Vc.nil ?_
  refine aw_ret ?_
  injection h with h
  subst h
  refine ends (τ := ⟨[(4, .own 16)], [(16, some (.ints .i64 v35))]⟩) ?_ rfl ⟨rfl, trivial⟩
  apply w_conv hC [(16, 208)]
  ·
   exact co
  ·
   rfl
  ·
   decide
  ·
   rfl
def impl_scanOrder_res (r : (List Int)) : AV := .own 16
def impl_scanOrder_obs (r : (List Int)) : Objs := [(16, .ints .i64 r)]
theorem impl_scanOrder_ac {p0 : Int} {r : (List Int)} (h : impl_scanOrder p0 = some r) : AC Tryz.prog 184 [.sv (.int .i64 p0)] [] (impl_scanOrder_res r) (impl_scanOrder_obs r) := by
 refine ac_of_body hT Tryz.func184 rfl fun C hC => ?_
 unfold impl_scanOrder at h
 refine s_reg ?_
 refine v_op hT hC rfl rfl rfl rfl trivial ?_
 refine Vc.nil ?_
 refine s_reg ?_
 iterate 2 refine v_op hT hC rfl rfl rfl rfl trivial ?_
 refine Vc.nil ?_
 refine s_in ?_
 refine s_reg ?_
 refine v_op hT hC rfl rfl rfl rfl trivial ?_
 refine Vc.nil ?_
 refine live [0, 3, 4] [128] (s' := [_, _, _]) (o' := [_]) rfl rfl ?_
 obtain ⟨v32, hl, h⟩ := bnd_some h
 refine s_loop (fun v16 => ([(4, .sv (.int .i64 v16.1))], [(128, some (.ints .i64 v16.2))])) (fun v32 => ([(0, .any), (4, .any)], [(128, some (.ints .i64 v32))])) hl ?_ ?_ ?_
 ·
  try dsimp only
  apply w_conv hC []
  ·
   exact co
  ·
   rfl
  ·
   decide
  ·
   rfl
 ·
  intro v16 s hs
  have h := hs
  unfold impl_scanOrder_l12 at h
  refine s_in ?_
  refine s_reg ?_
  iterate 5 refine v_op hT hC rfl rfl rfl rfl trivial ?_
  refine Vc.nil ?_
  rcases sel_some h with ⟨hb27, h⟩ | ⟨hb27, h⟩
  ·
   refine s_true rfl hb27 ?_
   refine aw_skip ?_
   refine t_norm ?_
   refine s_in ?_
   refine s_block ?_
   refine s_reg ?_
   refine v_op hT hC rfl rfl rfl rfl trivial ?_
   refine Vc.nil ?_
   refine live [0, 3, 4, 5] [128] (s' := [_, _, _, _]) (o' := [_]) rfl rfl ?_
   obtain ⟨v42, hl, h⟩ := bnd_some h
   refine s_loop (fun v37 => ([(5, .sv (.int .i64 v37.1))], [(128, some (.ints .i64 v37.2))])) (fun v42 => ([(5, .any)], [(128, some (.ints .i64 v42))])) hl ?_ ?_ ?_
   ·
    try dsimp only
    apply w_conv hC []
    ·
     exact co
    ·
     rfl
    ·
     decide
    ·
     rfl
   ·
    intro v37 s hs
    have h := hs
    unfold impl_scanOrder_l14 at h
    refine s_in ?_
    refine s_reg ?_
    iterate 3 refine v_op hT hC rfl rfl rfl rfl trivial ?_
    refine Vc.nil ?_
    rcases sel_some h with ⟨hb36, h⟩ | ⟨hb36, h⟩
    ·
     refine s_true rfl hb36 ?_
     refine aw_skip ?_
     refine t_norm ?_
     refine live [0, 3, 4, 5] [128] (s' := [_, _, _, _]) (o' := [_]) rfl rfl ?_
     obtain ⟨v43, h1, h⟩ := bnd_some h
     refine aw_to ([], [(128, some (.ints .i64 v43))]) ?_ ?_
     ·
      have h := h1
      refine s_block ?_
      refine s_reg ?_
      iterate 2 refine v_op hT hC rfl rfl rfl rfl trivial ?_
      refine Vc.nil ?_
      refine live [0, 3, 4, 5, 6] [128] (s' := [_, _, _, _, _]) (o' := [_]) rfl rfl ?_
      obtain ⟨v44, h1, h⟩ := bnd_some h
      refine aw_to ([(6, .sv (.int .i64 v44))], []) ?_ ?_
      ·
       have h := h1
       refine s_reg ?_
       refine v_op hT hC rfl rfl rfl rfl trivial ?_
       obtain ⟨hq, h⟩ := req_some h
       refine v_op hT hC rfl rfl rfl rfl hq ?_
       refine v_op hT hC rfl rfl rfl rfl trivial ?_
       refine Vc.nil ?_
       rcases sel_some h with ⟨hb37, h⟩ | ⟨hb37, h⟩
       ·
        refine s_true rfl hb37 ?_
        refine aw_region ?_
        iterate 4 refine v_op hT hC rfl rfl rfl rfl trivial ?_
        refine Vc.nil ?_
        injection h with h
        subst h
        refine m_norm ?_
        apply w_conv hC []
        ·
         exact co
        ·
         rfl
        ·
         decide
        ·
         rfl
       ·
        refine s_false rfl hb37 ?_
        refine aw_skip ?_
        injection h with h
        subst h
        refine m_norm ?_
        apply w_conv hC []
        ·
         exact co
        ·
         rfl
        ·
         decide
        ·
         rfl
      refine s_reg ?_
      iterate 4 refine v_op hT hC rfl rfl rfl rfl trivial ?_
      refine Vc.nil ?_
      refine live [0, 3, 4, 5, 6, 7] [128] (s' := [_, _, _, _, _, _]) (o' := [_]) rfl rfl ?_
      obtain ⟨v45, h1, h⟩ := bnd_some h
      refine aw_to ([(38, .sv (.bool v45))], []) ?_ ?_
      ·
       have h := h1
       refine aw_region ?_
       iterate 4 refine v_op hT hC rfl rfl rfl rfl trivial ?_
       rcases sel_some h with ⟨hb38, h⟩ | ⟨hb38, h⟩
       ·
        iterate 3 refine v_on hT hC rfl rfl rfl rfl hb38 rfl rfl rfl trivial ?_
        refine v_pick hC rfl rfl rfl (b := true) hb38 rfl rfl rfl trivial ?_
        refine Vc.nil ?_
        injection h with h
        subst h
        refine m_norm ?_
        apply w_conv hC []
        ·
         exact co
        ·
         rfl
        ·
         decide
        ·
         rfl
       ·
        refine v_off hC rfl rfl rfl rfl hb38 rfl rfl ?_
        refine v_off hC rfl rfl rfl rfl hb38 rfl rfl ?_
        refine v_off hC rfl rfl rfl rfl hb38 rfl rfl ?_
        refine v_pick hC rfl rfl rfl (b := false) hb38 rfl rfl rfl trivial ?_
        refine Vc.nil ?_
        injection h with h
        subst h
        refine m_norm ?_
        apply w_conv hC []
        ·
         exact co
        ·
         rfl
        ·
         decide
        ·
         rfl
      rcases sel_some h with ⟨hb39, h⟩ | ⟨hb39, h⟩
      ·
       refine s_true rfl hb39 ?_
       refine aw_region ?_
       iterate 7 refine v_op hT hC rfl rfl rfl rfl trivial ?_
       obtain ⟨hq, h⟩ := req_some h
       refine v_op hT hC rfl rfl rfl rfl ⟨trivial, hq⟩ ?_
       refine v_op hT hC rfl rfl rfl rfl trivial ?_
       refine Vc.nil ?_
       refine b_norm ?_
       injection h with h
       subst h
       refine m_norm ?_
       apply w_conv hC [(128, 736)]
       ·
        exact co
       ·
        rfl
       ·
        decide
       ·
        rfl
      ·
       refine s_false rfl hb39 ?_
       refine aw_skip ?_
       refine b_norm ?_
       injection h with h
       subst h
       refine m_norm ?_
       apply w_conv hC []
       ·
        exact co
       ·
        rfl
       ·
        decide
       ·
        rfl
     refine aw_region ?_
     iterate 3 refine v_op hT hC rfl rfl rfl rfl trivial ?_
     refine Vc.nil ?_
     injection h with h
     subst h
     refine r_go ?_
     try dsimp only
     apply w_conv hC []
     ·
      exact co
     ·
      rfl
     ·
      decide
     ·
      rfl
    ·
     refine s_false rfl hb36 ?_
     refine aw_exit ?_
     refine t_exit ?_
     injection h with h
     subst h
     refine r_exit ?_
     refine o_out ?_
     apply w_conv hC []
     ·
      exact co
     ·
      rfl
     ·
      decide
     ·
      rfl
   refine b_norm ?_
   refine t_norm ?_
   refine aw_region ?_
   iterate 3 refine v_op hT hC rfl rfl rfl rfl trivial ?_
   refine Vc.nil ?_
   injection h with h
   subst h
   refine r_go ?_
   try dsimp only
   apply w_conv hC []
   ·
    exact co
   ·
    rfl
   ·
    decide
   ·
    rfl
  ·
   refine s_false rfl hb27 ?_
   refine aw_exit ?_
   refine t_exit ?_
   injection h with h
   subst h
   refine r_exit ?_
   refine o_out ?_
   apply w_conv hC []
   ·
    exact co
   ·
    rfl
   ·
    decide
   ·
    rfl
 refine t_norm ?_
 refine s_reg ?_
 iterate 2 refine v_op hT hC rfl rfl rfl rfl trivial ?_
 refine Vc.nil ?_
 refine aw_ret ?_
 injection h with h
 subst h
 refine ends (τ := ⟨[(2, .own 16)], [(16, some (.ints .i64 v32))]⟩) ?_ rfl ⟨rfl, trivial⟩
 apply w_conv hC [(16, 128)]
 ·
  exact co
 ·
  rfl
 ·
  decide
 ·
  rfl
def impl_SignOf_res (r : Int) : AV := .sv (.int .i64 r)
def impl_SignOf_obs (r : Int) : Objs := []
theorem impl_SignOf_ac {p0 : Int} {p1 : Int} {r : Int} (h : impl_SignOf p0 p1 = some r) : AC Tryz.prog 231 [.sv (.int .i64 p0), .sv (.int .i64 p1)] [] (impl_SignOf_res r) (impl_SignOf_obs r) := by
 refine ac_of_body hT Tryz.func231 rfl fun C hC => ?_
 unfold impl_SignOf at h
 refine s_reg ?_
 refine v_op hT hC rfl rfl rfl rfl trivial ?_
 refine Vc.nil ?_
 refine s_in ?_
 refine live [0, 1] [] (s' := [_, _]) (o' := []) rfl rfl ?_
 obtain ⟨v1, h1, h⟩ := bnd_some h
 refine aw_to ([(13, .sv (.bool v1))], []) ?_ ?_
 ·
  have h := h1
  refine aw_region ?_
  refine v_op hT hC rfl rfl rfl rfl trivial ?_
  obtain ⟨q2, hq, h⟩ := bnd_some h
  refine v_call hC [] rfl rfl rfl rfl Tryz.call54 (impl_within_ac hq) rfl (by decide) trivial rfl (.inl rfl) rfl ?_
  iterate 2 refine v_op hT hC rfl rfl rfl rfl trivial ?_
  rcases sel_some h with ⟨hb1, h⟩ | ⟨hb1, h⟩
  ·
   refine v_on hT hC rfl rfl rfl rfl (congrArg Bool.not hb1) rfl rfl rfl trivial ?_
   obtain ⟨q3, hq, h⟩ := bnd_some h
   refine v_call_on hC [] rfl rfl rfl rfl (congrArg Bool.not hb1) rfl rfl rfl Tryz.call54 (impl_within_ac hq) rfl (by decide) trivial rfl (.inl rfl) rfl ?_
   refine v_on hT hC rfl rfl rfl rfl (congrArg Bool.not hb1) rfl rfl rfl trivial ?_
   refine v_pick hC rfl rfl rfl (b := false) (congrArg Bool.not hb1) rfl rfl rfl trivial ?_
   refine Vc.nil ?_
   injection h with h
   subst h
   refine m_norm ?_
   apply w_conv hC []
   ·
    exact co
   ·
    rfl
   ·
    decide
   ·
    rfl
  ·
   refine v_off hC rfl rfl rfl rfl (congrArg Bool.not hb1) rfl rfl ?_
   refine v_off hC rfl rfl rfl rfl (congrArg Bool.not hb1) rfl rfl ?_
   refine v_off hC rfl rfl rfl rfl (congrArg Bool.not hb1) rfl rfl ?_
   refine v_pick hC rfl rfl rfl (b := true) (congrArg Bool.not hb1) rfl rfl rfl trivial ?_
   refine Vc.nil ?_
   injection h with h
   subst h
   refine m_norm ?_
   apply w_conv hC []
   ·
    exact co
   ·
    rfl
   ·
    decide
   ·
    rfl
 rcases sel_some h with ⟨hb2, h⟩ | ⟨hb2, h⟩
 ·
  refine s_true rfl hb2 ?_
  refine s_reg ?_
  refine v_op hT hC rfl rfl rfl rfl trivial ?_
  refine Vc.nil ?_
  refine aw_ret ?_
  refine t_ret ?_
  injection h with h
  subst h
  exact ends (Weak.refl _) rfl trivial
 ·
  refine s_false rfl hb2 ?_
  refine aw_skip ?_
  refine t_norm ?_
  refine s_reg ?_
  iterate 4 refine v_op hT hC rfl rfl rfl rfl trivial ?_
  refine Vc.nil ?_
  refine s_in ?_
  refine s_reg ?_
  iterate 3 refine v_op hT hC rfl rfl rfl rfl trivial ?_
  obtain ⟨hq, h⟩ := req_some h
  refine v_op hT hC rfl rfl rfl rfl hq ?_
  iterate 3 refine v_op hT hC rfl rfl rfl rfl trivial ?_
  obtain ⟨hq, h⟩ := req_some h
  refine v_op hT hC rfl rfl rfl rfl hq ?_
  iterate 2 refine v_op hT hC rfl rfl rfl rfl trivial ?_
  obtain ⟨hq, h⟩ := req_some h
  refine v_op hT hC rfl rfl rfl rfl hq ?_
  refine v_op hT hC rfl rfl rfl rfl trivial ?_
  refine Vc.nil ?_
  rcases sel_some h with ⟨hb3, h⟩ | ⟨hb3, h⟩
  ·
   refine s_true rfl hb3 ?_
   refine s_reg ?_
   refine v_op hT hC rfl rfl rfl rfl trivial ?_
   refine Vc.nil ?_
   refine aw_ret ?_
   refine t_ret ?_
   injection h with h
   subst h
   exact ends (Weak.refl _) rfl trivial
  ·
   refine s_false rfl hb3 ?_
   refine aw_skip ?_
   refine t_norm ?_
   refine s_reg ?_
   refine v_op hT hC rfl rfl rfl rfl trivial ?_
   refine Vc.nil ?_
   refine aw_ret ?_
   injection h with h
   subst h
   exact ends (Weak.refl _) rfl trivial
def impl_sums_res (r : (List Int)) : AV := .own 16
def impl_sums_obs (r : (List Int)) : Objs := [(16, .ints .i64 r)]
theorem impl_sums_ac {p0 : (List Int)} {r : (List Int)} (h : impl_sums p0 = some r) : AC Tryz.prog 185 [.sv (.ints .i64 p0)] [] (impl_sums_res r) (impl_sums_obs r) := by
 refine ac_of_body hT Tryz.func185 rfl fun C hC => ?_
 unfold impl_sums at h
 refine s_reg ?_
 refine v_op hT hC rfl rfl rfl rfl trivial ?_
 refine Vc.nil ?_
 refine s_reg ?_
 obtain ⟨hq, h⟩ := req_some h
 refine v_op hT hC rfl rfl rfl rfl ⟨hq.1, hq.2.1, hq.2.2, by decide⟩ ?_
 refine v_op hT hC rfl rfl rfl rfl trivial ?_
 refine Vc.nil ?_
 refine s_in ?_
 refine s_reg ?_
 refine v_op hT hC rfl rfl rfl rfl trivial ?_
 refine Vc.nil ?_
 refine live [0, 3, 12] [176] (s' := [_, _, _]) (o' := [_]) rfl rfl ?_
 obtain ⟨v62, hl, h⟩ := bnd_some h
 refine s_loop (fun v31 => ([(12, .sv (.int .i64 v31.1))], [(176, some (.ints .i64 v31.2))])) (fun v62 => ([(0, .any), (12, .any)], [(176, some (.ints .i64 v62))])) hl ?_ ?_ ?_
 ·
  try dsimp only
  apply w_conv hC []
  ·
   exact co
  ·
   rfl
  ·
   decide
  ·
   rfl
 ·
  intro v31 s hs
  have h := hs
  unfold impl_sums_l72 at h
  refine s_reg ?_
  refine v_op hT hC rfl rfl rfl rfl trivial ?_
  refine Vc.nil ?_
  refine s_in ?_
  rcases sel_some h with ⟨hb27, h⟩ | ⟨hb27, h⟩
  ·
   refine s_true rfl hb27 ?_
   refine aw_skip ?_
   refine t_norm ?_
   refine s_in ?_
   refine s_block ?_
   refine s_reg ?_
   iterate 2 refine v_op hT hC rfl rfl rfl rfl trivial ?_
   refine Vc.nil ?_
   refine s_reg ?_
   refine v_op hT hC rfl rfl rfl rfl trivial ?_
   refine Vc.nil ?_
   refine live [0, 3, 4, 12, 15] [176] (s' := [_, _, _, _, _]) (o' := [_]) rfl rfl ?_
   obtain ⟨v82, hl, h⟩ := bnd_some h
   refine s_loop (fun v72 => ([(15, .sv (.int .i64 v72.1))], [(176, some (.ints .i64 v72.2))])) (fun v82 => ([(4, .any), (15, .any)], [(176, some (.ints .i64 v82))])) hl ?_ ?_ ?_
   ·
    try dsimp only
    apply w_conv hC []
    ·
     exact co
    ·
     rfl
    ·
     decide
    ·
     rfl
   ·
    intro v72 s hs
    have h := hs
    unfold impl_sums_l84 at h
    refine s_reg ?_
    refine v_op hT hC rfl rfl rfl rfl trivial ?_
    refine Vc.nil ?_
    refine s_in ?_
    rcases sel_some h with ⟨hb36, h⟩ | ⟨hb36, h⟩
    ·
     refine s_true rfl hb36 ?_
     refine aw_skip ?_
     refine t_norm ?_
     refine s_in ?_
     refine s_block ?_
     refine s_reg ?_
     iterate 2 refine v_op hT hC rfl rfl rfl rfl trivial ?_
     refine Vc.nil ?_
     refine s_reg ?_
     refine v_op hT hC rfl rfl rfl rfl trivial ?_
     refine Vc.nil ?_
     refine live [0, 3, 4, 5, 12, 15, 18] [176] (s' := [_, _, _, _, _, _, _]) (o' := [_]) rfl rfl ?_
     obtain ⟨v88, hl, h⟩ := bnd_some h
     refine s_loop (fun v85 => ([(18, .sv (.int .i64 v85.1))], [(176, some (.ints .i64 v85.2))])) (fun v88 => ([(5, .any), (18, .any)], [(176, some (.ints .i64 v88))])) hl ?_ ?_ ?_
     ·
      try dsimp only
      apply w_conv hC []
      ·
       exact co
      ·
       rfl
      ·
       decide
      ·
       rfl
     ·
      intro v85 s hs
      have h := hs
      unfold impl_sums_l86 at h
      refine s_reg ?_
      refine v_op hT hC rfl rfl rfl rfl trivial ?_
      refine Vc.nil ?_
      refine s_in ?_
      rcases sel_some h with ⟨hb39, h⟩ | ⟨hb39, h⟩
      ·
       refine s_true rfl hb39 ?_
       refine aw_skip ?_
       refine t_norm ?_
       refine s_in ?_
       refine s_block ?_
       refine s_reg ?_
       iterate 2 refine v_op hT hC rfl rfl rfl rfl trivial ?_
       refine Vc.nil ?_
       refine aw_draw hm ?_
       iterate 10 refine v_op hT hC rfl rfl rfl rfl trivial ?_
       obtain ⟨hq, h⟩ := req_some h
       refine v_op hT hC rfl rfl rfl rfl hq ?_
       obtain ⟨hq, h⟩ := req_some h
       refine v_op hT hC rfl rfl rfl rfl hq ?_
       iterate 2 refine v_op hT hC rfl rfl rfl rfl trivial ?_
       obtain ⟨q89, hq, h⟩ := bnd_some h
       refine v_call hC [] rfl rfl rfl rfl Tryz.call231 (impl_SignOf_ac hq) rfl (by decide) trivial rfl (.inl rfl) rfl ?_
       iterate 5 refine v_op hT hC rfl rfl rfl rfl trivial ?_
       obtain ⟨hq, h⟩ := req_some h
       refine v_op hT hC rfl rfl rfl rfl hq ?_
       iterate 3 refine v_op hT hC rfl rfl rfl rfl trivial ?_
       obtain ⟨hq, h⟩ := req_some h
       refine v_op hT hC rfl rfl rfl rfl hq ?_
       obtain ⟨hq, h⟩ := req_some h
       refine v_op hT hC rfl rfl rfl rfl hq ?_
       refine Vc.nil ⟨by kernel_rfl, ?_⟩
       refine b_norm ?_
       refine t_norm ?_
       refine aw_region ?_
       iterate 2 refine v_op hT hC rfl rfl rfl rfl trivial ?_
       refine Vc.nil ?_
       injection h with h
       subst h
       refine r_go ?_
       try dsimp only
       apply w_conv hC []
       ·
        exact co
       ·
        rfl
       ·
        decide
       ·
        rfl
      ·
       refine s_false rfl hb39 ?_
       refine aw_exit ?_
       refine t_exit ?_
       injection h with h
       subst h
       refine r_exit ?_
       refine o_out ?_
       apply w_conv hC []
       ·
        exact co
       ·
        rfl
       ·
        decide
       ·
        rfl
     refine b_norm ?_
     refine t_norm ?_
     refine aw_region ?_
     iterate 2 refine v_op hT hC rfl rfl rfl rfl trivial ?_
     refine Vc.nil ?_
     injection h with h
     subst h
     refine r_go ?_
     try dsimp only
     apply w_conv hC []
     ·
      exact co
     ·
      rfl
     ·
      decide
     ·
      rfl
    ·
     refine s_false rfl hb36 ?_
     refine aw_exit ?_
     refine t_exit ?_
     injection h with h
     subst h
     refine r_exit ?_
     refine o_out ?_
     apply w_conv hC []
     ·
      exact co
     ·
      rfl
     ·
      decide
     ·
      rfl
   refine b_norm ?_
   refine t_norm ?_
   refine aw_region ?_
   iterate 2 refine v_op hT hC rfl rfl rfl rfl trivial ?_
   refine Vc.nil ?_
   injection h with h
   subst h
   refine r_go ?_
   try dsimp only
   apply w_conv hC []
   ·
    exact co
   ·
    rfl
   ·
    decide
   ·
    rfl
  ·
   refine s_false rfl hb27 ?_
   refine aw_exit ?_
   refine t_exit ?_
   injection h with h
   subst h
   refine r_exit ?_
   refine o_out ?_
   apply w_conv hC []
   ·
    exact co
   ·
    rfl
   ·
    decide
   ·
    rfl
 refine t_norm ?_
 refine s_reg ?_
 obtain ⟨hq, h⟩ := req_some h
 refine v_op hT hC rfl rfl rfl rfl ⟨hq.1, hq.2.1, hq.2.2, by decide⟩ ?_
 refine v_op hT hC rfl rfl rfl rfl trivial ?_
 refine Vc.nil ?_
 refine s_in ?_
 refine s_reg ?_
 refine v_op hT hC rfl rfl rfl rfl trivial ?_
 refine Vc.nil ?_
 refine live [3, 7, 50] [176, 784] (s' := [_, _, _]) (o' := [_, _]) rfl rfl ?_
 obtain ⟨v154, hl, h⟩ := bnd_some h
 refine s_loop (fun v123 => ([(50, .sv (.int .i64 v123.1))], [(784, some (.ints .i64 v123.2))])) (fun v154 => ([(3, .any), (50, .any)], [(784, some (.ints .i64 v154)), (176, none)])) hl ?_ ?_ ?_
 ·
  try dsimp only
  apply w_conv hC []
  ·
   exact co
  ·
   rfl
  ·
   decide
  ·
   rfl
 ·
  intro v123 s hs
  have h := hs
  unfold impl_sums_l158 at h
  refine s_reg ?_
  refine v_op hT hC rfl rfl rfl rfl trivial ?_
  refine Vc.nil ?_
  refine s_in ?_
  rcases sel_some h with ⟨hb66, h⟩ | ⟨hb66, h⟩
  ·
   refine s_true rfl hb66 ?_
   refine aw_skip ?_
   refine t_norm ?_
   refine s_in ?_
   refine s_block ?_
   refine s_reg ?_
   iterate 2 refine v_op hT hC rfl rfl rfl rfl trivial ?_
   refine Vc.nil ?_
   refine s_reg ?_
   refine v_op hT hC rfl rfl rfl rfl trivial ?_
   refine Vc.nil ?_
   refine live [3, 7, 8, 50, 53] [176, 784] (s' := [_, _, _, _, _]) (o' := [_, _]) rfl rfl ?_
   obtain ⟨v174, hl, h⟩ := bnd_some h
   refine s_loop (fun v164 => ([(53, .sv (.int .i64 v164.1))], [(784, some (.ints .i64 v164.2))])) (fun v174 => ([(8, .any), (53, .any)], [(784, some (.ints .i64 v174))])) hl ?_ ?_ ?_
   ·
    try dsimp only
    apply w_conv hC []
    ·
     exact co
    ·
     rfl
    ·
     decide
    ·
     rfl
   ·
    intro v164 s hs
    have h := hs
    unfold impl_sums_l170 at h
    refine s_reg ?_
    refine v_op hT hC rfl rfl rfl rfl trivial ?_
    refine Vc.nil ?_
    refine s_in ?_
    rcases sel_some h with ⟨hb75, h⟩ | ⟨hb75, h⟩
    ·
     refine s_true rfl hb75 ?_
     refine aw_skip ?_
     refine t_norm ?_
     refine s_in ?_
     refine s_block ?_
     refine s_reg ?_
     iterate 2 refine v_op hT hC rfl rfl rfl rfl trivial ?_
     refine Vc.nil ?_
     refine s_reg ?_
     refine v_op hT hC rfl rfl rfl rfl trivial ?_
     refine Vc.nil ?_
     refine live [3, 7, 8, 9, 50, 53, 56] [176, 784] (s' := [_, _, _, _, _, _, _]) (o' := [_, _]) rfl rfl ?_
     obtain ⟨v180, hl, h⟩ := bnd_some h
     refine s_loop (fun v177 => ([(56, .sv (.int .i64 v177.1))], [(784, some (.ints .i64 v177.2))])) (fun v180 => ([(9, .any), (56, .any)], [(784, some (.ints .i64 v180))])) hl ?_ ?_ ?_
     ·
      try dsimp only
      apply w_conv hC []
      ·
       exact co
      ·
       rfl
      ·
       decide
      ·
       rfl
     ·
      intro v177 s hs
      have h := hs
      unfold impl_sums_l172 at h
      refine s_reg ?_
      refine v_op hT hC rfl rfl rfl rfl trivial ?_
      refine Vc.nil ?_
      refine s_in ?_
      rcases sel_some h with ⟨hb78, h⟩ | ⟨hb78, h⟩
      ·
       refine s_true rfl hb78 ?_
       refine aw_skip ?_
       refine t_norm ?_
       refine s_in ?_
       refine s_block ?_
       refine s_reg ?_
       iterate 2 refine v_op hT hC rfl rfl rfl rfl trivial ?_
       refine Vc.nil ?_
       refine aw_draw hm ?_
       iterate 10 refine v_op hT hC rfl rfl rfl rfl trivial ?_
       obtain ⟨hq, h⟩ := req_some h
       refine v_op hT hC rfl rfl rfl rfl hq ?_
       obtain ⟨hq, h⟩ := req_some h
       refine v_op hT hC rfl rfl rfl rfl hq ?_
       iterate 2 refine v_op hT hC rfl rfl rfl rfl trivial ?_
       obtain ⟨q181, hq, h⟩ := bnd_some h
       refine v_call hC [] rfl rfl rfl rfl Tryz.call231 (impl_SignOf_ac hq) rfl (by decide) trivial rfl (.inl rfl) rfl ?_
       iterate 5 refine v_op hT hC rfl rfl rfl rfl trivial ?_
       obtain ⟨hq, h⟩ := req_some h
       refine v_op hT hC rfl rfl rfl rfl hq ?_
       obtain ⟨hq, h⟩ := req_some h
       refine v_op hT hC rfl rfl rfl rfl hq ?_
       iterate 2 refine v_op hT hC rfl rfl rfl rfl trivial ?_
       obtain ⟨hq, h⟩ := req_some h
       refine v_op hT hC rfl rfl rfl rfl hq ?_
       obtain ⟨hq, h⟩ := req_some h
       refine v_op hT hC rfl rfl rfl rfl hq ?_
       refine Vc.nil ⟨by kernel_rfl, ?_⟩
       refine b_norm ?_
       refine t_norm ?_
       refine aw_region ?_
       iterate 2 refine v_op hT hC rfl rfl rfl rfl trivial ?_
       refine Vc.nil ?_
       injection h with h
       subst h
       refine r_go ?_
       try dsimp only
       apply w_conv hC []
       ·
        exact co
       ·
        rfl
       ·
        decide
       ·
        rfl
      ·
       refine s_false rfl hb78 ?_
       refine aw_exit ?_
       refine t_exit ?_
       injection h with h
       subst h
       refine r_exit ?_
       refine o_out ?_
       apply w_conv hC []
       ·
        exact co
       ·
        rfl
       ·
        decide
       ·
        rfl
     refine b_norm ?_
     refine t_norm ?_
     refine aw_region ?_
     iterate 2 refine v_op hT hC rfl rfl rfl rfl trivial ?_
     refine Vc.nil ?_
     injection h with h
     subst h
     refine r_go ?_
     try dsimp only
     apply w_conv hC []
     ·
      exact co
     ·
      rfl
     ·
      decide
     ·
      rfl
    ·
     refine s_false rfl hb75 ?_
     refine aw_exit ?_
     refine t_exit ?_
     injection h with h
     subst h
     refine r_exit ?_
     refine o_out ?_
     apply w_conv hC []
     ·
      exact co
     ·
      rfl
     ·
      decide
     ·
      rfl
   refine b_norm ?_
   refine t_norm ?_
   refine aw_region ?_
   iterate 2 refine v_op hT hC rfl rfl rfl rfl trivial ?_
   refine Vc.nil ?_
   injection h with h
   subst h
   refine r_go ?_
   try dsimp only
   apply w_conv hC []
   ·
    exact co
   ·
    rfl
   ·
    decide
   ·
    rfl
  ·
   refine s_false rfl hb66 ?_
   refine aw_exit ?_
   refine t_exit ?_
   injection h with h
   subst h
   refine r_exit ?_
   refine o_out ?_
   apply w_conv hC []
   ·
    exact co
   ·
    rfl
   ·
    decide
   ·
    rfl
 refine t_norm ?_
 refine s_reg ?_
 iterate 2 refine v_op hT hC rfl rfl rfl rfl trivial ?_
 refine Vc.nil ?_
 refine aw_ret ?_
 injection h with h
 subst h
 refine ends (τ := ⟨[(2, .own 16)], [(16, some (.ints .i64 v154))]⟩) ?_ rfl ⟨rfl, trivial⟩
 apply w_conv hC [(16, 784)]
 ·
  exact co
 ·
  rfl
 ·
  decide
 ·
  rfl
def impl_StepOf_res (r : Int) : AV := .sv (.int .i64 r)
def impl_StepOf_obs (r : Int) : Objs := []
theorem impl_StepOf_ac {p0 : Int} {r : Int} (h : impl_StepOf p0 = some r) : AC Tryz.prog 186 [.sv (.int .i64 p0)] [] (impl_StepOf_res r) (impl_StepOf_obs r) := by
 refine ac_of_body hT Tryz.func186 rfl fun C hC => ?_
 unfold impl_StepOf at h
 refine s_reg ?_
 refine v_op hT hC rfl rfl rfl rfl trivial ?_
 refine Vc.nil ?_
 refine s_in ?_
 refine s_reg ?_
 refine v_op hT hC rfl rfl rfl rfl trivial ?_
 obtain ⟨q1, hq, h⟩ := bnd_some h
 refine v_call hC [] rfl rfl rfl rfl Tryz.call54 (impl_within_ac hq) rfl (by decide) trivial rfl (.inl rfl) rfl ?_
 refine v_op hT hC rfl rfl rfl rfl trivial ?_
 refine Vc.nil ?_
 rcases sel_some h with ⟨hb1, h⟩ | ⟨hb1, h⟩
 ·
  refine s_true rfl hb1 ?_
  refine s_reg ?_
  refine v_op hT hC rfl rfl rfl rfl trivial ?_
  refine Vc.nil ?_
  refine aw_ret ?_
  refine t_ret ?_
  injection h with h
  subst h
  exact ends (Weak.refl _) rfl trivial
 ·
  refine s_false rfl hb1 ?_
  refine aw_skip ?_
  refine t_norm ?_
  refine s_reg ?_
  iterate 2 refine v_op hT hC rfl rfl rfl rfl trivial ?_
  obtain ⟨hq, h⟩ := req_some h
  refine v_op hT hC rfl rfl rfl rfl hq ?_
  obtain ⟨hq, h⟩ := req_some h
  refine v_op hT hC rfl rfl rfl rfl hq ?_
  obtain ⟨hq, h⟩ := req_some h
  refine v_op hT hC rfl rfl rfl rfl hq ?_
  refine v_op hT hC rfl rfl rfl rfl trivial ?_
  obtain ⟨hq, h⟩ := req_some h
  refine v_op hT hC rfl rfl rfl rfl hq ?_
  obtain ⟨hq, h⟩ := req_some h
  refine v_op hT hC rfl rfl rfl rfl hq ?_
  refine v_op hT hC rfl rfl rfl rfl trivial ?_
  refine Vc.nil ?_
  refine aw_ret ?_
  injection h with h
  subst h
  exact ends (Weak.refl _) rfl trivial
def impl_quarter_res (r : (List Int)) : AV := .own 16
def impl_quarter_obs (r : (List Int)) : Objs := [(16, .ints .i64 r)]
theorem impl_quarter_ac {p0 : Int} {r : (List Int)} (h : impl_quarter p0 = some r) : AC Tryz.prog 122 [.sv (.int .i64 p0)] [] (impl_quarter_res r) (impl_quarter_obs r) := by
 refine ac_of_body hT Tryz.func122 rfl fun C hC => ?_
 unfold impl_quarter at h
 refine s_reg ?_
 refine v_op hT hC rfl rfl rfl rfl trivial ?_
 refine Vc.nil ?_
 refine s_reg ?_
 iterate 2 refine v_op hT hC rfl rfl rfl rfl trivial ?_
 refine Vc.nil ?_
 refine s_in ?_
 refine s_reg ?_
 refine v_op hT hC rfl rfl rfl rfl trivial ?_
 refine Vc.nil ?_
 refine live [0, 3, 7] [96] (s' := [_, _, _]) (o' := [_]) rfl rfl ?_
 obtain ⟨v14, hl, h⟩ := bnd_some h
 refine s_loop (fun v7 => ([(7, .sv (.int .i64 v7.1))], [(96, some (.ints .i64 v7.2))])) (fun v14 => ([(0, .any), (7, .any)], [(96, some (.ints .i64 v14))])) hl ?_ ?_ ?_
 ·
  try dsimp only
  apply w_conv hC []
  ·
   exact co
  ·
   rfl
  ·
   decide
  ·
   rfl
 ·
  intro v7 s hs
  have h := hs
  unfold impl_quarter_l12 at h
  refine s_reg ?_
  refine v_op hT hC rfl rfl rfl rfl trivial ?_
  refine Vc.nil ?_
  refine s_in ?_
  rcases sel_some h with ⟨hb9, h⟩ | ⟨hb9, h⟩
  ·
   refine s_true rfl hb9 ?_
   refine aw_skip ?_
   refine t_norm ?_
   refine s_in ?_
   refine s_block ?_
   refine s_reg ?_
   iterate 2 refine v_op hT hC rfl rfl rfl rfl trivial ?_
   refine Vc.nil ?_
   refine s_reg ?_
   refine v_op hT hC rfl rfl rfl rfl trivial ?_
   refine Vc.nil ?_
   refine live [0, 3, 4, 7, 10] [96] (s' := [_, _, _, _, _]) (o' := [_]) rfl rfl ?_
   obtain ⟨v18, hl, h⟩ := bnd_some h
   refine s_loop (fun v16 => ([(10, .sv (.int .i64 v16.1))], [(96, some (.ints .i64 v16.2))])) (fun v18 => ([(4, .any), (10, .any)], [(96, some (.ints .i64 v18))])) hl ?_ ?_ ?_
   ·
    try dsimp only
    apply w_conv hC []
    ·
     exact co
    ·
     rfl
    ·
     decide
    ·
     rfl
   ·
    intro v16 s hs
    have h := hs
    unfold impl_quarter_l14 at h
    refine s_reg ?_
    refine v_op hT hC rfl rfl rfl rfl trivial ?_
    refine Vc.nil ?_
    refine s_in ?_
    rcases sel_some h with ⟨hb12, h⟩ | ⟨hb12, h⟩
    ·
     refine s_true rfl hb12 ?_
     refine aw_skip ?_
     refine t_norm ?_
     refine s_in ?_
     refine s_block ?_
     refine s_reg ?_
     iterate 2 refine v_op hT hC rfl rfl rfl rfl trivial ?_
     refine Vc.nil ?_
     refine aw_region ?_
     iterate 3 refine v_op hT hC rfl rfl rfl rfl trivial ?_
     obtain ⟨hq, h⟩ := req_some h
     refine v_op hT hC rfl rfl rfl rfl hq ?_
     iterate 6 refine v_op hT hC rfl rfl rfl rfl trivial ?_
     obtain ⟨hq, h⟩ := req_some h
     refine v_op hT hC rfl rfl rfl rfl hq ?_
     iterate 3 refine v_op hT hC rfl rfl rfl rfl trivial ?_
     obtain ⟨hq, h⟩ := req_some h
     refine v_op hT hC rfl rfl rfl rfl ⟨trivial, hq⟩ ?_
     refine v_op hT hC rfl rfl rfl rfl trivial ?_
     refine Vc.nil ?_
     refine b_norm ?_
     refine t_norm ?_
     refine aw_region ?_
     iterate 2 refine v_op hT hC rfl rfl rfl rfl trivial ?_
     refine Vc.nil ?_
     injection h with h
     subst h
     refine r_go ?_
     try dsimp only
     apply w_conv hC [(96, 432)]
     ·
      exact co
     ·
      rfl
     ·
      decide
     ·
      rfl
    ·
     refine s_false rfl hb12 ?_
     refine aw_exit ?_
     refine t_exit ?_
     injection h with h
     subst h
     refine r_exit ?_
     refine o_out ?_
     apply w_conv hC []
     ·
      exact co
     ·
      rfl
     ·
      decide
     ·
      rfl
   refine b_norm ?_
   refine t_norm ?_
   refine aw_region ?_
   iterate 2 refine v_op hT hC rfl rfl rfl rfl trivial ?_
   refine Vc.nil ?_
   injection h with h
   subst h
   refine r_go ?_
   try dsimp only
   apply w_conv hC []
   ·
    exact co
   ·
    rfl
   ·
    decide
   ·
    rfl
  ·
   refine s_false rfl hb9 ?_
   refine aw_exit ?_
   refine t_exit ?_
   injection h with h
   subst h
   refine r_exit ?_
   refine o_out ?_
   apply w_conv hC []
   ·
    exact co
   ·
    rfl
   ·
    decide
   ·
    rfl
 refine t_norm ?_
 refine s_reg ?_
 iterate 2 refine v_op hT hC rfl rfl rfl rfl trivial ?_
 refine Vc.nil ?_
 refine aw_ret ?_
 injection h with h
 subst h
 refine ends (τ := ⟨[(2, .own 16)], [(16, some (.ints .i64 v14))]⟩) ?_ rfl ⟨rfl, trivial⟩
 apply w_conv hC [(16, 96)]
 ·
  exact co
 ·
  rfl
 ·
  decide
 ·
  rfl
def impl_copyInts_res (r : (List Int)) : AV := .own 16
def impl_copyInts_obs (r : (List Int)) : Objs := [(16, .ints .i64 r)]
theorem impl_copyInts_ac {p0 : (List Int)} {r : (List Int)} (h : impl_copyInts p0 = some r) : AC Tryz.prog 164 [.sv (.ints .i64 p0)] [] (impl_copyInts_res r) (impl_copyInts_obs r) := by
 refine ac_of_body hT Tryz.func164 rfl fun C hC => ?_
 unfold impl_copyInts at h
 refine s_reg ?_
 refine v_op hT hC rfl rfl rfl rfl trivial ?_
 refine Vc.nil ?_
 refine s_reg ?_
 iterate 2 refine v_op hT hC rfl rfl rfl rfl trivial ?_
 obtain ⟨hq, h⟩ := req_some h
 refine v_op hT hC rfl rfl rfl rfl ⟨trivial, hq⟩ ?_
 refine v_op hT hC rfl rfl rfl rfl trivial ?_
 refine Vc.nil ?_
 refine aw_ret ?_
 injection h with h
 subst h
 refine ends (τ := ⟨[(2, .own 16)], [(16, some (.ints .i64 (([] : List Int) ++ p0)))]⟩) ?_ rfl ⟨rfl, trivial⟩
 apply w_conv hC [(16, 80)]
 ·
  exact co
 ·
  rfl
 ·
  decide
 ·
  rfl
def impl_KindOf_res (r : Int) : AV := .sv (.int .i64 r)
def impl_KindOf_obs (r : Int) : Objs := []
theorem impl_KindOf_ac {p0 : Int} {r : Int} (h : impl_KindOf p0 = some r) : AC Tryz.prog 232 [.sv (.int .i64 p0)] [] (impl_KindOf_res r) (impl_KindOf_obs r) := by
 refine ac_of_body hT Tryz.func232 rfl fun C hC => ?_
 unfold impl_KindOf at h
 refine s_reg ?_
 refine v_op hT hC rfl rfl rfl rfl trivial ?_
 refine Vc.nil ?_
 refine s_in ?_
 refine s_reg ?_
 refine v_op hT hC rfl rfl rfl rfl trivial ?_
 obtain ⟨q1, hq, h⟩ := bnd_some h
 refine v_call hC [] rfl rfl rfl rfl Tryz.call54 (impl_within_ac hq) rfl (by decide) trivial rfl (.inl rfl) rfl ?_
 refine v_op hT hC rfl rfl rfl rfl trivial ?_
 refine Vc.nil ?_
 rcases sel_some h with ⟨hb1, h⟩ | ⟨hb1, h⟩
 ·
  refine s_true rfl hb1 ?_
  refine s_reg ?_
  refine v_op hT hC rfl rfl rfl rfl trivial ?_
  refine Vc.nil ?_
  refine aw_ret ?_
  refine t_ret ?_
  injection h with h
  subst h
  exact ends (Weak.refl _) rfl trivial
 ·
  refine s_false rfl hb1 ?_
  refine aw_skip ?_
  refine t_norm ?_
  refine s_reg ?_
  refine v_op hT hC rfl rfl rfl rfl trivial ?_
  obtain ⟨hq, h⟩ := req_some h
  refine v_op hT hC rfl rfl rfl rfl hq ?_
  obtain ⟨hq, h⟩ := req_some h
  refine v_op hT hC rfl rfl rfl rfl hq ?_
  refine v_op hT hC rfl rfl rfl rfl trivial ?_
  obtain ⟨hq, h⟩ := req_some h
  refine v_op hT hC rfl rfl rfl rfl hq ?_
  obtain ⟨hq, h⟩ := req_some h
  refine v_op hT hC rfl rfl rfl rfl hq ?_
  iterate 2 refine v_op hT hC rfl rfl rfl rfl trivial ?_
  refine Vc.nil ?_
  refine s_in ?_
  refine s_block ?_
  refine live [3, 4] [] (s' := [_, _]) (o' := []) rfl rfl ?_
  obtain ⟨v2, h1, h⟩ := bnd_some h
  refine aw_to ([(14, .sv (.bool v2))], []) ?_ ?_
  ·
   have h := h1
   refine aw_region ?_
   iterate 3 refine v_op hT hC rfl rfl rfl rfl trivial ?_
   rcases sel_some h with ⟨hb2, h⟩ | ⟨hb2, h⟩
   ·
    iterate 2 refine v_on hT hC rfl rfl rfl rfl hb2 rfl rfl rfl trivial ?_
    refine v_pick hC rfl rfl rfl (b := true) hb2 rfl rfl rfl trivial ?_
    refine v_op hT hC rfl rfl rfl rfl trivial ?_
    refine Vc.nil ?_
    injection h with h
    subst h
    refine m_norm ?_
    apply w_conv hC []
    ·
     exact co
    ·
     rfl
    ·
     decide
    ·
     rfl
   ·
    refine v_off hC rfl rfl rfl rfl hb2 rfl rfl ?_
    refine v_off hC rfl rfl rfl rfl hb2 rfl rfl ?_
    refine v_pick hC rfl rfl rfl (b := false) hb2 rfl rfl rfl trivial ?_
    refine v_op hT hC rfl rfl rfl rfl trivial ?_
    refine Vc.nil ?_
    injection h with h
    subst h
    refine m_norm ?_
    apply w_conv hC []
    ·
     exact co
    ·
     rfl
    ·
     decide
    ·
     rfl
  rcases sel_some h with ⟨hb3, h⟩ | ⟨hb3, h⟩
  ·
   refine s_true rfl hb3 ?_
   refine s_reg ?_
   refine v_op hT hC rfl rfl rfl rfl trivial ?_
   refine Vc.nil ?_
   refine aw_ret ?_
   refine b_ret ?_
   refine t_ret ?_
   injection h with h
   subst h
   exact ends (Weak.refl _) rfl trivial
  ·
   refine s_false rfl hb3 ?_
   refine live [3, 4] [] (s' := [_, _]) (o' := []) rfl rfl ?_
   obtain ⟨v3, h1, h⟩ := bnd_some h
   refine aw_to ([(21, .sv (.bool v3)), (3, .any), (4, .any)], []) ?_ ?_
   ·
    have h := h1
    refine aw_region ?_
    iterate 3 refine v_op hT hC rfl rfl rfl rfl trivial ?_
    rcases sel_some h with ⟨hb4, h⟩ | ⟨hb4, h⟩
    ·
     iterate 2 refine v_on hT hC rfl rfl rfl rfl hb4 rfl rfl rfl trivial ?_
     refine v_pick hC rfl rfl rfl (b := true) hb4 rfl rfl rfl trivial ?_
     refine v_op hT hC rfl rfl rfl rfl trivial ?_
     refine Vc.nil ?_
     injection h with h
     subst h
     refine m_norm ?_
     apply w_conv hC []
     ·
      exact co
     ·
      rfl
     ·
      decide
     ·
      rfl
    ·
     refine v_off hC rfl rfl rfl rfl hb4 rfl rfl ?_
     refine v_off hC rfl rfl rfl rfl hb4 rfl rfl ?_
     refine v_pick hC rfl rfl rfl (b := false) hb4 rfl rfl rfl trivial ?_
     refine v_op hT hC rfl rfl rfl rfl trivial ?_
     refine Vc.nil ?_
     injection h with h
     subst h
     refine m_norm ?_
     apply w_conv hC []
     ·
      exact co
     ·
      rfl
     ·
      decide
     ·
      rfl
   rcases sel_some h with ⟨hb5, h⟩ | ⟨hb5, h⟩
   ·
    refine s_true rfl hb5 ?_
    refine s_reg ?_
    refine v_op hT hC rfl rfl rfl rfl trivial ?_
    refine Vc.nil ?_
    refine aw_ret ?_
    refine b_ret ?_
    refine t_ret ?_
    injection h with h
    subst h
    exact ends (Weak.refl _) rfl trivial
   ·
    refine s_false rfl hb5 ?_
    refine aw_skip ?_
    refine b_norm ?_
    refine t_norm ?_
    refine s_reg ?_
    refine v_op hT hC rfl rfl rfl rfl trivial ?_
    refine Vc.nil ?_
    refine aw_ret ?_
    injection h with h
    subst h
    exact ends (Weak.refl _) rfl trivial
def impl_Pic_block_res (r : (List Int)) : AV := .own 16
def impl_Pic_block_obs (r : (List Int)) : Objs := [(16, .ints .i64 r)]
theorem impl_Pic_block_ac {p0 : Pic} {p1 : Int} {p2 : Int} {r : (List Int)} (h : impl_Pic_block p0 p1 p2 = some r) : AC Tryz.prog 61 [.agg [.sv (.int .i64 p0.Wide), .sv (.int .i64 p0.High), .sv (.str p0.Dots)], .sv (.int .i64 p1), .sv (.int .i64 p2)] [] (impl_Pic_block_res r) (impl_Pic_block_obs r) := by
 refine ac_of_body hT Tryz.func61 rfl fun C hC => ?_
 unfold impl_Pic_block at h
 refine s_reg ?_
 iterate 2 refine v_op hT hC rfl rfl rfl rfl trivial ?_
 refine Vc.nil ?_
 refine s_reg ?_
 obtain ⟨hq, h⟩ := req_some h
 refine v_op hT hC rfl rfl rfl rfl ⟨hq.1, hq.2.1, hq.2.2, by decide⟩ ?_
 refine v_op hT hC rfl rfl rfl rfl trivial ?_
 refine Vc.nil ?_
 refine s_in ?_
 refine s_reg ?_
 refine v_op hT hC rfl rfl rfl rfl trivial ?_
 refine Vc.nil ?_
 refine live [1, 2, 3, 7, 11] [48, 160] (s' := [_, _, _, _, _]) (o' := [_, _]) rfl rfl ?_
 obtain ⟨v20, hl, h⟩ := bnd_some h
 refine s_loop (fun v10 => ([(11, .sv (.int .i64 v10.1))], [(160, some (.ints .i64 v10.2))])) (fun v20 => ([(1, .any), (2, .any), (3, .any), (11, .any)], [(160, some (.ints .i64 v20)), (48, none)])) hl ?_ ?_ ?_
 ·
  try dsimp only
  apply w_conv hC []
  ·
   exact co
  ·
   rfl
  ·
   decide
  ·
   rfl
 ·
  intro v10 s hs
  have h := hs
  unfold impl_Pic_block_l12 at h
  refine s_reg ?_
  refine v_op hT hC rfl rfl rfl rfl trivial ?_
  refine Vc.nil ?_
  refine s_in ?_
  rcases sel_some h with ⟨hb9, h⟩ | ⟨hb9, h⟩
  ·
   refine s_true rfl hb9 ?_
   refine aw_skip ?_
   refine t_norm ?_
   refine s_in ?_
   refine s_block ?_
   refine s_reg ?_
   iterate 2 refine v_op hT hC rfl rfl rfl rfl trivial ?_
   refine Vc.nil ?_
   refine s_reg ?_
   refine v_op hT hC rfl rfl rfl rfl trivial ?_
   refine Vc.nil ?_
   refine live [1, 2, 3, 7, 8, 11, 14] [48, 160] (s' := [_, _, _, _, _, _, _]) (o' := [_, _]) rfl rfl ?_
   obtain ⟨v26, hl, h⟩ := bnd_some h
   refine s_loop (fun v23 => ([(14, .sv (.int .i64 v23.1))], [(160, some (.ints .i64 v23.2))])) (fun v26 => ([(8, .any), (14, .any)], [(160, some (.ints .i64 v26))])) hl ?_ ?_ ?_
   ·
    try dsimp only
    apply w_conv hC []
    ·
     exact co
    ·
     rfl
    ·
     decide
    ·
     rfl
   ·
    intro v23 s hs
    have h := hs
    unfold impl_Pic_block_l14 at h
    refine s_reg ?_
    refine v_op hT hC rfl rfl rfl rfl trivial ?_
    refine Vc.nil ?_
    refine s_in ?_
    rcases sel_some h with ⟨hb12, h⟩ | ⟨hb12, h⟩
    ·
     refine s_true rfl hb12 ?_
     refine aw_skip ?_
     refine t_norm ?_
     refine s_in ?_
     refine s_block ?_
     refine s_reg ?_
     iterate 2 refine v_op hT hC rfl rfl rfl rfl trivial ?_
     refine Vc.nil ?_
     refine aw_region ?_
     iterate 8 refine v_op hT hC rfl rfl rfl rfl trivial ?_
     obtain ⟨q27, hq, h⟩ := bnd_some h
     refine v_call hC [] rfl rfl rfl rfl Tryz.call116 (impl_Pic_dot_ac hq) rfl (by decide) trivial rfl (.inl rfl) rfl ?_
     refine v_op hT hC rfl rfl rfl rfl trivial ?_
     obtain ⟨hq, h⟩ := req_some h
     refine v_op hT hC rfl rfl rfl rfl ⟨trivial, hq⟩ ?_
     refine v_op hT hC rfl rfl rfl rfl trivial ?_
     refine Vc.nil ?_
     refine b_norm ?_
     refine t_norm ?_
     refine aw_region ?_
     iterate 2 refine v_op hT hC rfl rfl rfl rfl trivial ?_
     refine Vc.nil ?_
     injection h with h
     subst h
     refine r_go ?_
     try dsimp only
     apply w_conv hC [(160, 432)]
     ·
      exact co
     ·
      rfl
     ·
      decide
     ·
      rfl
    ·
     refine s_false rfl hb12 ?_
     refine aw_exit ?_
     refine t_exit ?_
     injection h with h
     subst h
     refine r_exit ?_
     refine o_out ?_
     apply w_conv hC []
     ·
      exact co
     ·
      rfl
     ·
      decide
     ·
      rfl
   refine b_norm ?_
   refine t_norm ?_
   refine aw_region ?_
   iterate 2 refine v_op hT hC rfl rfl rfl rfl trivial ?_
   refine Vc.nil ?_
   injection h with h
   subst h
   refine r_go ?_
   try dsimp only
   apply w_conv hC []
   ·
    exact co
   ·
    rfl
   ·
    decide
   ·
    rfl
  ·
   refine s_false rfl hb9 ?_
   refine aw_exit ?_
   refine t_exit ?_
   injection h with h
   subst h
   refine r_exit ?_
   refine o_out ?_
   apply w_conv hC []
   ·
    exact co
   ·
    rfl
   ·
    decide
   ·
    rfl
 refine t_norm ?_
 refine s_reg ?_
 iterate 2 refine v_op hT hC rfl rfl rfl rfl trivial ?_
 refine Vc.nil ?_
 refine aw_ret ?_
 injection h with h
 subst h
 refine ends (τ := ⟨[(6, .own 16)], [(16, some (.ints .i64 v20))]⟩) ?_ rfl ⟨rfl, trivial⟩
 apply w_conv hC [(16, 160)]
 ·
  exact co
 ·
  rfl
 ·
  decide
 ·
  rfl
def impl_Pic_holds_res (r : Bool) : AV := .sv (.bool r)
def impl_Pic_holds_obs (r : Bool) : Objs := []
theorem impl_Pic_holds_ac {p0 : Pic} {p1 : Rect} {r : Bool} (h : impl_Pic_holds p0 p1 = some r) : AC Tryz.prog 129 [.agg [.sv (.int .i64 p0.Wide), .sv (.int .i64 p0.High), .sv (.str p0.Dots)], .agg [.sv (.int .i64 p1.Left), .sv (.int .i64 p1.Top), .sv (.int .i64 p1.Wide), .sv (.int .i64 p1.High)]] [] (impl_Pic_holds_res r) (impl_Pic_holds_obs r) := by
 refine ac_of_body hT Tryz.func129 rfl fun C hC => ?_
 unfold impl_Pic_holds at h
 refine s_reg ?_
 iterate 3 refine v_op hT hC rfl rfl rfl rfl trivial ?_
 refine Vc.nil ?_
 refine live [2, 3, 4] [32, 48] (s' := [_, _, _]) (o' := [_, _]) rfl rfl ?_
 obtain ⟨v1, h1, h⟩ := bnd_some h
 refine aw_to ([(4, .sv (.bool v1)), (2, .any), (3, .any)], [(32, none), (48, none)]) ?_ ?_
 ·
  have h := h1
  refine aw_region ?_
  iterate 4 refine v_op hT hC rfl rfl rfl rfl trivial ?_
  obtain ⟨q2, hq, h⟩ := bnd_some h
  refine v_call hC [] rfl rfl rfl rfl Tryz.call54 (impl_within_ac hq) rfl (by decide) trivial rfl (.inl rfl) rfl ?_
  refine v_op hT hC rfl rfl rfl rfl trivial ?_
  rcases sel_some h with ⟨hb1, h⟩ | ⟨hb1, h⟩
  ·
   iterate 4 refine v_on hT hC rfl rfl rfl rfl hb1 rfl rfl rfl trivial ?_
   obtain ⟨q3, hq, h⟩ := bnd_some h
   refine v_call_on hC [] rfl rfl rfl rfl hb1 rfl rfl rfl Tryz.call54 (impl_within_ac hq) rfl (by decide) trivial rfl (.inl rfl) rfl ?_
   refine v_pick hC rfl rfl rfl (b := true) hb1 rfl rfl rfl trivial ?_
   refine v_op hT hC rfl rfl rfl rfl trivial ?_
   rcases sel_some h with ⟨hb2, h⟩ | ⟨hb2, h⟩
   ·
    iterate 7 refine v_on hT hC rfl rfl rfl rfl hb2 rfl rfl rfl trivial ?_
    obtain ⟨q4, hq, h⟩ := bnd_some h
    refine v_call_on hC [] rfl rfl rfl rfl hb2 rfl rfl rfl Tryz.call54 (impl_within_ac hq) rfl (by decide) trivial rfl (.inl rfl) rfl ?_
    refine v_pick hC rfl rfl rfl (b := true) hb2 rfl rfl rfl trivial ?_
    refine v_op hT hC rfl rfl rfl rfl trivial ?_
    rcases sel_some h with ⟨hb3, h⟩ | ⟨hb3, h⟩
    ·
     iterate 7 refine v_on hT hC rfl rfl rfl rfl hb3 rfl rfl rfl trivial ?_
     obtain ⟨q5, hq, h⟩ := bnd_some h
     refine v_call_on hC [] rfl rfl rfl rfl hb3 rfl rfl rfl Tryz.call54 (impl_within_ac hq) rfl (by decide) trivial rfl (.inl rfl) rfl ?_
     refine v_pick hC rfl rfl rfl (b := true) hb3 rfl rfl rfl trivial ?_
     refine v_op hT hC rfl rfl rfl rfl trivial ?_
     refine Vc.nil ?_
     injection h with h
     subst h
     refine m_norm ?_
     apply w_conv hC []
     ·
      exact co
     ·
      rfl
     ·
      decide
     ·
      rfl
    ·
     refine v_off hC rfl rfl rfl rfl hb3 rfl rfl ?_
     refine v_off hC rfl rfl rfl rfl hb3 rfl rfl ?_
     refine v_off hC rfl rfl rfl rfl hb3 rfl rfl ?_
     refine v_off hC rfl rfl rfl rfl hb3 rfl rfl ?_
     refine v_off hC rfl rfl rfl rfl hb3 rfl rfl ?_
     refine v_off hC rfl rfl rfl rfl hb3 rfl rfl ?_
     refine v_off hC rfl rfl rfl rfl hb3 rfl rfl ?_
     refine v_off hC rfl rfl rfl rfl hb3 rfl rfl ?_
     refine v_pick hC rfl rfl rfl (b := false) hb3 rfl rfl rfl trivial ?_
     refine v_op hT hC rfl rfl rfl rfl trivial ?_
     refine Vc.nil ?_
     injection h with h
     subst h
     refine m_norm ?_
     apply w_conv hC []
     ·
      exact co
     ·
      rfl
     ·
      decide
     ·
      rfl
   ·
    refine v_off hC rfl rfl rfl rfl hb2 rfl rfl ?_
    refine v_off hC rfl rfl rfl rfl hb2 rfl rfl ?_
    refine v_off hC rfl rfl rfl rfl hb2 rfl rfl ?_
    refine v_off hC rfl rfl rfl rfl hb2 rfl rfl ?_
    refine v_off hC rfl rfl rfl rfl hb2 rfl rfl ?_
    refine v_off hC rfl rfl rfl rfl hb2 rfl rfl ?_
    refine v_off hC rfl rfl rfl rfl hb2 rfl rfl ?_
    refine v_off hC rfl rfl rfl rfl hb2 rfl rfl ?_
    refine v_pick hC rfl rfl rfl (b := false) hb2 rfl rfl rfl trivial ?_
    refine v_op hT hC rfl rfl rfl rfl trivial ?_
    refine v_off hC rfl rfl rfl rfl rfl rfl rfl ?_
    refine v_off hC rfl rfl rfl rfl rfl rfl rfl ?_
    refine v_off hC rfl rfl rfl rfl rfl rfl rfl ?_
    refine v_off hC rfl rfl rfl rfl rfl rfl rfl ?_
    refine v_off hC rfl rfl rfl rfl rfl rfl rfl ?_
    refine v_off hC rfl rfl rfl rfl rfl rfl rfl ?_
    refine v_off hC rfl rfl rfl rfl rfl rfl rfl ?_
    refine v_off hC rfl rfl rfl rfl rfl rfl rfl ?_
    iterate 2 refine v_op hT hC rfl rfl rfl rfl trivial ?_
    refine Vc.nil ?_
    injection h with h
    subst h
    refine m_norm ?_
    apply w_conv hC []
    ·
     exact co
    ·
     rfl
    ·
     decide
    ·
     rfl
  ·
   refine v_off hC rfl rfl rfl rfl hb1 rfl rfl ?_
   refine v_off hC rfl rfl rfl rfl hb1 rfl rfl ?_
   refine v_off hC rfl rfl rfl rfl hb1 rfl rfl ?_
   refine v_off hC rfl rfl rfl rfl hb1 rfl rfl ?_
   refine v_off hC rfl rfl rfl rfl hb1 rfl rfl ?_
   refine v_pick hC rfl rfl rfl (b := false) hb1 rfl rfl rfl trivial ?_
   refine v_op hT hC rfl rfl rfl rfl trivial ?_
   refine v_off hC rfl rfl rfl rfl rfl rfl rfl ?_
   refine v_off hC rfl rfl rfl rfl rfl rfl rfl ?_
   refine v_off hC rfl rfl rfl rfl rfl rfl rfl ?_
   refine v_off hC rfl rfl rfl rfl rfl rfl rfl ?_
   refine v_off hC rfl rfl rfl rfl rfl rfl rfl ?_
   refine v_off hC rfl rfl rfl rfl rfl rfl rfl ?_
   refine v_off hC rfl rfl rfl rfl rfl rfl rfl ?_
   refine v_off hC rfl rfl rfl rfl rfl rfl rfl ?_
   iterate 2 refine v_op hT hC rfl rfl rfl rfl trivial ?_
   refine v_off hC rfl rfl rfl rfl rfl rfl rfl ?_
   refine v_off hC rfl rfl rfl rfl rfl rfl rfl ?_
   refine v_off hC rfl rfl rfl rfl rfl rfl rfl ?_
   refine v_off hC rfl rfl rfl rfl rfl rfl rfl ?_
   refine v_off hC rfl rfl rfl rfl rfl rfl rfl ?_
   refine v_off hC rfl rfl rfl rfl rfl rfl rfl ?_
   refine v_off hC rfl rfl rfl rfl rfl rfl rfl ?_
   refine v_off hC rfl rfl rfl rfl rfl rfl rfl ?_
   iterate 2 refine v_op hT hC rfl rfl rfl rfl trivial ?_
   refine Vc.nil ?_
   injection h with h
   subst h
   refine m_norm ?_
   apply w_conv hC []
   ·
    exact co
   ·
    rfl
   ·
    decide
   ·
    rfl
 refine aw_ret ?_
 injection h with h
 subst h
 exact ends (Weak.refl _) rfl trivial
def impl_areLevels_res (r : Bool) : AV := .sv (.bool r)
def impl_areLevels_obs (r : Bool) : Objs := []
theorem impl_areLevels_ac {p0 : (List Int)} {r : Bool} (h : impl_areLevels p0 = some r) : AC Tryz.prog 192 [.sv (.ints .i64 p0)] [] (impl_areLevels_res r) (impl_areLevels_obs r) := by
 refine ac_of_body hT Tryz.func192 rfl fun C hC => ?_
 unfold impl_areLevels at h
 refine s_reg ?_
 refine v_op hT hC rfl rfl rfl rfl trivial ?_
 refine Vc.nil ?_
 refine s_reg ?_
 refine v_op hT hC rfl rfl rfl rfl trivial ?_
 obtain ⟨q1, hq, h⟩ := bnd_some h
 refine v_call hC [] rfl rfl rfl rfl Tryz.call52 (impl_areIn_ac hq) rfl (by decide) trivial rfl (.inl rfl) rfl ?_
 refine v_op hT hC rfl rfl rfl rfl trivial ?_
 refine Vc.nil ?_
 refine aw_ret ?_
 injection h with h
 subst h
 exact ends (Weak.refl _) rfl trivial
def impl_SquareOk_res (r : Bool) : AV := .sv (.bool r)
def impl_SquareOk_obs (r : Bool) : Objs := []
theorem impl_SquareOk_ac {p0 : Square} {r : Bool} (h : impl_SquareOk p0 = some r) : AC Tryz.prog 131 [.agg [.sv (.int .i64 p0.Kind), .sv (.int .i64 p0.Mode), .sv (.int .i64 p0.Dx), .sv (.int .i64 p0.Dy), .sv (.ints .i64 p0.Levels)]] [] (impl_SquareOk_res r) (impl_SquareOk_obs r) := by
 refine ac_of_body hT Tryz.func131 rfl fun C hC => ?_
 unfold impl_SquareOk at h
 refine s_reg ?_
 iterate 2 refine v_op hT hC rfl rfl rfl rfl trivial ?_
 refine Vc.nil ?_
 refine s_in ?_
 refine s_reg ?_
 iterate 2 refine v_op hT hC rfl rfl rfl rfl trivial ?_
 refine Vc.nil ?_
 refine s_block ?_
 refine s_reg ?_
 iterate 2 refine v_op hT hC rfl rfl rfl rfl trivial ?_
 refine Vc.nil ?_
 rcases sel_some h with ⟨hb1, h⟩ | ⟨hb1, h⟩
 ·
  refine s_true rfl hb1 ?_
  refine live [1, 2] [16] (s' := [_, _]) (o' := [_]) rfl rfl ?_
  obtain ⟨v1, h1, h⟩ := bnd_some h
  refine aw_to ([(2, .sv (.bool v1)), (1, .any)], [(16, none)]) ?_ ?_
  ·
   have h := h1
   refine aw_region ?_
   iterate 4 refine v_op hT hC rfl rfl rfl rfl trivial ?_
   rcases sel_some h with ⟨hb2, h⟩ | ⟨hb2, h⟩
   ·
    iterate 3 refine v_on hT hC rfl rfl rfl rfl hb2 rfl rfl rfl trivial ?_
    refine v_pick hC rfl rfl rfl (b := true) hb2 rfl rfl rfl trivial ?_
    refine v_op hT hC rfl rfl rfl rfl trivial ?_
    rcases sel_some h with ⟨hb3, h⟩ | ⟨hb3, h⟩
    ·
     iterate 3 refine v_on hT hC rfl rfl rfl rfl hb3 rfl rfl rfl trivial ?_
     refine v_pick hC rfl rfl rfl (b := true) hb3 rfl rfl rfl trivial ?_
     refine v_op hT hC rfl rfl rfl rfl trivial ?_
     rcases sel_some h with ⟨hb4, h⟩ | ⟨hb4, h⟩
     ·
      iterate 4 refine v_on hT hC rfl rfl rfl rfl hb4 rfl rfl rfl trivial ?_
      refine v_pick hC rfl rfl rfl (b := true) hb4 rfl rfl rfl trivial ?_
      refine v_op hT hC rfl rfl rfl rfl trivial ?_
      refine Vc.nil ?_
      injection h with h
      subst h
      refine m_norm ?_
      apply w_conv hC []
      ·
       exact co
      ·
       rfl
      ·
       decide
      ·
       rfl
     ·
      refine v_off hC rfl rfl rfl rfl hb4 rfl rfl ?_
      refine v_off hC rfl rfl rfl rfl hb4 rfl rfl ?_
      refine v_off hC rfl rfl rfl rfl hb4 rfl rfl ?_
      refine v_off hC rfl rfl rfl rfl hb4 rfl rfl ?_
      refine v_pick hC rfl rfl rfl (b := false) hb4 rfl rfl rfl trivial ?_
      refine v_op hT hC rfl rfl rfl rfl trivial ?_
      refine Vc.nil ?_
      injection h with h
      subst h
      refine m_norm ?_
      apply w_conv hC []
      ·
       exact co
      ·
       rfl
      ·
       decide
      ·
       rfl
    ·
     refine v_off hC rfl rfl rfl rfl hb3 rfl rfl ?_
     refine v_off hC rfl rfl rfl rfl hb3 rfl rfl ?_
     refine v_off hC rfl rfl rfl rfl hb3 rfl rfl ?_
     refine v_pick hC rfl rfl rfl (b := false) hb3 rfl rfl rfl trivial ?_
     refine v_op hT hC rfl rfl rfl rfl trivial ?_
     refine v_off hC rfl rfl rfl rfl rfl rfl rfl ?_
     refine v_off hC rfl rfl rfl rfl rfl rfl rfl ?_
     refine v_off hC rfl rfl rfl rfl rfl rfl rfl ?_
     refine v_off hC rfl rfl rfl rfl rfl rfl rfl ?_
     iterate 2 refine v_op hT hC rfl rfl rfl rfl trivial ?_
     refine Vc.nil ?_
     injection h with h
     subst h
     refine m_norm ?_
     apply w_conv hC []
     ·
      exact co
     ·
      rfl
     ·
      decide
     ·
      rfl
   ·
    refine v_off hC rfl rfl rfl rfl hb2 rfl rfl ?_
    refine v_off hC rfl rfl rfl rfl hb2 rfl rfl ?_
    refine v_off hC rfl rfl rfl rfl hb2 rfl rfl ?_
    refine v_pick hC rfl rfl rfl (b := false) hb2 rfl rfl rfl trivial ?_
    refine v_op hT hC rfl rfl rfl rfl trivial ?_
    refine v_off hC rfl rfl rfl rfl rfl rfl rfl ?_
    refine v_off hC rfl rfl rfl rfl rfl rfl rfl ?_
    refine v_off hC rfl rfl rfl rfl rfl rfl rfl ?_
    iterate 2 refine v_op hT hC rfl rfl rfl rfl trivial ?_
    refine v_off hC rfl rfl rfl rfl rfl rfl rfl ?_
    refine v_off hC rfl rfl rfl rfl rfl rfl rfl ?_
    refine v_off hC rfl rfl rfl rfl rfl rfl rfl ?_
    refine v_off hC rfl rfl rfl rfl rfl rfl rfl ?_
    iterate 2 refine v_op hT hC rfl rfl rfl rfl trivial ?_
    refine Vc.nil ?_
    injection h with h
    subst h
    refine m_norm ?_
    apply w_conv hC []
    ·
     exact co
    ·
     rfl
    ·
     decide
    ·
     rfl
  refine aw_ret ?_
  refine b_ret ?_
  refine t_ret ?_
  injection h with h
  subst h
  exact ends (Weak.refl _) rfl trivial
 ·
  refine s_false rfl hb1 ?_
  refine s_reg ?_
  iterate 2 refine v_op hT hC rfl rfl rfl rfl trivial ?_
  refine Vc.nil ?_
  rcases sel_some h with ⟨hb5, h⟩ | ⟨hb5, h⟩
  ·
   refine s_true rfl hb5 ?_
   refine live [1, 2] [16] (s' := [_, _]) (o' := [_]) rfl rfl ?_
   obtain ⟨v2, h1, h⟩ := bnd_some h
   refine aw_to ([(2, .sv (.bool v2)), (1, .any)], [(16, none)]) ?_ ?_
   ·
    have h := h1
    refine aw_region ?_
    iterate 4 refine v_op hT hC rfl rfl rfl rfl trivial ?_
    rcases sel_some h with ⟨hb6, h⟩ | ⟨hb6, h⟩
    ·
     iterate 2 refine v_on hT hC rfl rfl rfl rfl hb6 rfl rfl rfl trivial ?_
     obtain ⟨q3, hq, h⟩ := bnd_some h
     refine v_call_on hC [] rfl rfl rfl rfl hb6 rfl rfl rfl Tryz.call54 (impl_within_ac hq) rfl (by decide) trivial rfl (.inl rfl) rfl ?_
     refine v_pick hC rfl rfl rfl (b := true) hb6 rfl rfl rfl trivial ?_
     refine v_op hT hC rfl rfl rfl rfl trivial ?_
     rcases sel_some h with ⟨hb7, h⟩ | ⟨hb7, h⟩
     ·
      iterate 2 refine v_on hT hC rfl rfl rfl rfl hb7 rfl rfl rfl trivial ?_
      obtain ⟨q4, hq, h⟩ := bnd_some h
      refine v_call_on hC [] rfl rfl rfl rfl hb7 rfl rfl rfl Tryz.call54 (impl_within_ac hq) rfl (by decide) trivial rfl (.inl rfl) rfl ?_
      refine v_pick hC rfl rfl rfl (b := true) hb7 rfl rfl rfl trivial ?_
      refine v_op hT hC rfl rfl rfl rfl trivial ?_
      rcases sel_some h with ⟨hb8, h⟩ | ⟨hb8, h⟩
      ·
       iterate 2 refine v_on hT hC rfl rfl rfl rfl hb8 rfl rfl rfl trivial ?_
       obtain ⟨q5, hq, h⟩ := bnd_some h
       refine v_call_on hC [] rfl rfl rfl rfl hb8 rfl rfl rfl Tryz.call192 (impl_areLevels_ac hq) rfl (by decide) trivial rfl (.inl rfl) rfl ?_
       refine v_pick hC rfl rfl rfl (b := true) hb8 rfl rfl rfl trivial ?_
       refine v_op hT hC rfl rfl rfl rfl trivial ?_
       refine Vc.nil ?_
       injection h with h
       subst h
       refine m_norm ?_
       apply w_conv hC []
       ·
        exact co
       ·
        rfl
       ·
        decide
       ·
        rfl
      ·
       refine v_off hC rfl rfl rfl rfl hb8 rfl rfl ?_
       refine v_off hC rfl rfl rfl rfl hb8 rfl rfl ?_
       refine v_off hC rfl rfl rfl rfl hb8 rfl rfl ?_
       refine v_pick hC rfl rfl rfl (b := false) hb8 rfl rfl rfl trivial ?_
       refine v_op hT hC rfl rfl rfl rfl trivial ?_
       refine Vc.nil ?_
       injection h with h
       subst h
       refine m_norm ?_
       apply w_conv hC []
       ·
        exact co
       ·
        rfl
       ·
        decide
       ·
        rfl
     ·
      refine v_off hC rfl rfl rfl rfl hb7 rfl rfl ?_
      refine v_off hC rfl rfl rfl rfl hb7 rfl rfl ?_
      refine v_off hC rfl rfl rfl rfl hb7 rfl rfl ?_
      refine v_pick hC rfl rfl rfl (b := false) hb7 rfl rfl rfl trivial ?_
      refine v_op hT hC rfl rfl rfl rfl trivial ?_
      refine v_off hC rfl rfl rfl rfl rfl rfl rfl ?_
      refine v_off hC rfl rfl rfl rfl rfl rfl rfl ?_
      refine v_off hC rfl rfl rfl rfl rfl rfl rfl ?_
      iterate 2 refine v_op hT hC rfl rfl rfl rfl trivial ?_
      refine Vc.nil ?_
      injection h with h
      subst h
      refine m_norm ?_
      apply w_conv hC []
      ·
       exact co
      ·
       rfl
      ·
       decide
      ·
       rfl
    ·
     refine v_off hC rfl rfl rfl rfl hb6 rfl rfl ?_
     refine v_off hC rfl rfl rfl rfl hb6 rfl rfl ?_
     refine v_off hC rfl rfl rfl rfl hb6 rfl rfl ?_
     refine v_pick hC rfl rfl rfl (b := false) hb6 rfl rfl rfl trivial ?_
     refine v_op hT hC rfl rfl rfl rfl trivial ?_
     refine v_off hC rfl rfl rfl rfl rfl rfl rfl ?_
     refine v_off hC rfl rfl rfl rfl rfl rfl rfl ?_
     refine v_off hC rfl rfl rfl rfl rfl rfl rfl ?_
     iterate 2 refine v_op hT hC rfl rfl rfl rfl trivial ?_
     refine v_off hC rfl rfl rfl rfl rfl rfl rfl ?_
     refine v_off hC rfl rfl rfl rfl rfl rfl rfl ?_
     refine v_off hC rfl rfl rfl rfl rfl rfl rfl ?_
     iterate 2 refine v_op hT hC rfl rfl rfl rfl trivial ?_
     refine Vc.nil ?_
     injection h with h
     subst h
     refine m_norm ?_
     apply w_conv hC []
     ·
      exact co
     ·
      rfl
     ·
      decide
     ·
      rfl
   refine aw_ret ?_
   refine b_ret ?_
   refine t_ret ?_
   injection h with h
   subst h
   exact ends (Weak.refl _) rfl trivial
  ·
   refine s_false rfl hb5 ?_
   refine s_reg ?_
   iterate 2 refine v_op hT hC rfl rfl rfl rfl trivial ?_
   refine Vc.nil ?_
   rcases sel_some h with ⟨hb9, h⟩ | ⟨hb9, h⟩
   ·
    refine s_true rfl hb9 ?_
    refine live [1, 2] [16] (s' := [_, _]) (o' := [_]) rfl rfl ?_
    obtain ⟨v6, h1, h⟩ := bnd_some h
    refine aw_to ([(2, .sv (.bool v6)), (1, .any)], [(16, none)]) ?_ ?_
    ·
     have h := h1
     refine aw_region ?_
     iterate 2 refine v_op hT hC rfl rfl rfl rfl trivial ?_
     obtain ⟨q7, hq, h⟩ := bnd_some h
     refine v_call hC [] rfl rfl rfl rfl Tryz.call54 (impl_within_ac hq) rfl (by decide) trivial rfl (.inl rfl) rfl ?_
     refine v_op hT hC rfl rfl rfl rfl trivial ?_
     rcases sel_some h with ⟨hb10, h⟩ | ⟨hb10, h⟩
     ·
      iterate 3 refine v_on hT hC rfl rfl rfl rfl hb10 rfl rfl rfl trivial ?_
      refine v_pick hC rfl rfl rfl (b := true) hb10 rfl rfl rfl trivial ?_
      refine v_op hT hC rfl rfl rfl rfl trivial ?_
      rcases sel_some h with ⟨hb11, h⟩ | ⟨hb11, h⟩
      ·
       iterate 3 refine v_on hT hC rfl rfl rfl rfl hb11 rfl rfl rfl trivial ?_
       refine v_pick hC rfl rfl rfl (b := true) hb11 rfl rfl rfl trivial ?_
       refine v_op hT hC rfl rfl rfl rfl trivial ?_
       rcases sel_some h with ⟨hb12, h⟩ | ⟨hb12, h⟩
       ·
        iterate 2 refine v_on hT hC rfl rfl rfl rfl hb12 rfl rfl rfl trivial ?_
        obtain ⟨q8, hq, h⟩ := bnd_some h
        refine v_call_on hC [] rfl rfl rfl rfl hb12 rfl rfl rfl Tryz.call192 (impl_areLevels_ac hq) rfl (by decide) trivial rfl (.inl rfl) rfl ?_
        refine v_pick hC rfl rfl rfl (b := true) hb12 rfl rfl rfl trivial ?_
        refine v_op hT hC rfl rfl rfl rfl trivial ?_
        refine Vc.nil ?_
        injection h with h
        subst h
        refine m_norm ?_
        apply w_conv hC []
        ·
         exact co
        ·
         rfl
        ·
         decide
        ·
         rfl
       ·
        refine v_off hC rfl rfl rfl rfl hb12 rfl rfl ?_
        refine v_off hC rfl rfl rfl rfl hb12 rfl rfl ?_
        refine v_off hC rfl rfl rfl rfl hb12 rfl rfl ?_
        refine v_pick hC rfl rfl rfl (b := false) hb12 rfl rfl rfl trivial ?_
        refine v_op hT hC rfl rfl rfl rfl trivial ?_
        refine Vc.nil ?_
        injection h with h
        subst h
        refine m_norm ?_
        apply w_conv hC []
        ·
         exact co
        ·
         rfl
        ·
         decide
        ·
         rfl
      ·
       refine v_off hC rfl rfl rfl rfl hb11 rfl rfl ?_
       refine v_off hC rfl rfl rfl rfl hb11 rfl rfl ?_
       refine v_off hC rfl rfl rfl rfl hb11 rfl rfl ?_
       refine v_pick hC rfl rfl rfl (b := false) hb11 rfl rfl rfl trivial ?_
       refine v_op hT hC rfl rfl rfl rfl trivial ?_
       refine v_off hC rfl rfl rfl rfl rfl rfl rfl ?_
       refine v_off hC rfl rfl rfl rfl rfl rfl rfl ?_
       refine v_off hC rfl rfl rfl rfl rfl rfl rfl ?_
       iterate 2 refine v_op hT hC rfl rfl rfl rfl trivial ?_
       refine Vc.nil ?_
       injection h with h
       subst h
       refine m_norm ?_
       apply w_conv hC []
       ·
        exact co
       ·
        rfl
       ·
        decide
       ·
        rfl
     ·
      refine v_off hC rfl rfl rfl rfl hb10 rfl rfl ?_
      refine v_off hC rfl rfl rfl rfl hb10 rfl rfl ?_
      refine v_off hC rfl rfl rfl rfl hb10 rfl rfl ?_
      refine v_pick hC rfl rfl rfl (b := false) hb10 rfl rfl rfl trivial ?_
      refine v_op hT hC rfl rfl rfl rfl trivial ?_
      refine v_off hC rfl rfl rfl rfl rfl rfl rfl ?_
      refine v_off hC rfl rfl rfl rfl rfl rfl rfl ?_
      refine v_off hC rfl rfl rfl rfl rfl rfl rfl ?_
      iterate 2 refine v_op hT hC rfl rfl rfl rfl trivial ?_
      refine v_off hC rfl rfl rfl rfl rfl rfl rfl ?_
      refine v_off hC rfl rfl rfl rfl rfl rfl rfl ?_
      refine v_off hC rfl rfl rfl rfl rfl rfl rfl ?_
      iterate 2 refine v_op hT hC rfl rfl rfl rfl trivial ?_
      refine Vc.nil ?_
      injection h with h
      subst h
      refine m_norm ?_
      apply w_conv hC []
      ·
       exact co
      ·
       rfl
      ·
       decide
      ·
       rfl
    refine aw_ret ?_
    refine b_ret ?_
    refine t_ret ?_
    injection h with h
    subst h
    exact ends (Weak.refl _) rfl trivial
   ·
    refine s_false rfl hb9 ?_
    refine aw_skip ?_
    refine b_norm ?_
    refine t_norm ?_
    refine s_reg ?_
    refine v_op hT hC rfl rfl rfl rfl trivial ?_
    refine Vc.nil ?_
    refine aw_ret ?_
    injection h with h
    subst h
    exact ends (Weak.refl _) rfl trivial
def impl_Square_let_res (r : Bool) : AV := .sv (.bool r)
def impl_Square_let_obs (r : Bool) : Objs := []
theorem impl_Square_let_ac {p0 : Square} {p1 : Cond} {r : Bool} (h : impl_Square_let p0 p1 = some r) : AC Tryz.prog 132 [.agg [.sv (.int .i64 p0.Kind), .sv (.int .i64 p0.Mode), .sv (.int .i64 p0.Dx), .sv (.int .i64 p0.Dy), .sv (.ints .i64 p0.Levels)], .agg [.sv (.bool p1.Key), .sv (.int .i64 p1.Qp), .sv (.bool p1.Large), .sv (.bool p1.Exact)]] [] (impl_Square_let_res r) (impl_Square_let_obs r) := by
 refine ac_of_body hT Tryz.func132 rfl fun C hC => ?_
 unfold impl_Square_let at h
 refine s_reg ?_
 iterate 3 refine v_op hT hC rfl rfl rfl rfl trivial ?_
 refine Vc.nil ?_
 refine live [2, 3, 4] [32, 48] (s' := [_, _, _]) (o' := [_, _]) rfl rfl ?_
 obtain ⟨v1, h1, h⟩ := bnd_some h
 refine aw_to ([(4, .sv (.bool v1)), (2, .any), (3, .any)], [(32, none), (48, none)]) ?_ ?_
 ·
  have h := h1
  refine aw_region ?_
  iterate 4 refine v_op hT hC rfl rfl rfl rfl trivial ?_
  rcases sel_some h with ⟨hb1, h⟩ | ⟨hb1, h⟩
  ·
   iterate 3 refine v_on hT hC rfl rfl rfl rfl (congrArg Bool.not hb1) rfl rfl rfl trivial ?_
   refine v_pick hC rfl rfl rfl (b := false) (congrArg Bool.not hb1) rfl rfl rfl trivial ?_
   refine v_op hT hC rfl rfl rfl rfl trivial ?_
   refine Vc.nil ?_
   injection h with h
   subst h
   refine m_norm ?_
   apply w_conv hC []
   ·
    exact co
   ·
    rfl
   ·
    decide
   ·
    rfl
  ·
   refine v_off hC rfl rfl rfl rfl (congrArg Bool.not hb1) rfl rfl ?_
   refine v_off hC rfl rfl rfl rfl (congrArg Bool.not hb1) rfl rfl ?_
   refine v_off hC rfl rfl rfl rfl (congrArg Bool.not hb1) rfl rfl ?_
   refine v_pick hC rfl rfl rfl (b := true) (congrArg Bool.not hb1) rfl rfl rfl trivial ?_
   refine v_op hT hC rfl rfl rfl rfl trivial ?_
   refine Vc.nil ?_
   injection h with h
   subst h
   refine m_norm ?_
   apply w_conv hC []
   ·
    exact co
   ·
    rfl
   ·
    decide
   ·
    rfl
 refine aw_ret ?_
 injection h with h
 subst h
 exact ends (Weak.refl _) rfl trivial
def impl_Unscanned_res (r : ((List Int) × Bool)) : AV := .tup [.own 16, .sv (.bool r.2)]
def impl_Unscanned_obs (r : ((List Int) × Bool)) : Objs := [(16, .ints .i64 r.1)]
theorem impl_Unscanned_ac {p0 : Int} {p1 : (List Int)} {r : ((List Int) × Bool)} (h : impl_Unscanned p0 p1 = some r) : AC Tryz.prog 193 [.sv (.int .i64 p0), .sv (.ints .i64 p1)] [] (impl_Unscanned_res r) (impl_Unscanned_obs r) := by
 refine ac_of_body hT Tryz.func193 rfl fun C hC => ?_
 unfold impl_Unscanned at h
 refine s_reg ?_
 iterate 2 refine v_op hT hC rfl rfl rfl rfl trivial ?_
 refine Vc.nil ?_
 refine s_in ?_
 refine live [0, 1] [] (s' := [_, _]) (o' := []) rfl rfl ?_
 obtain ⟨v1, h1, h⟩ := bnd_some h
 refine aw_to ([(22, .sv (.bool v1))], []) ?_ ?_
 ·
  have h := h1
  refine aw_region ?_
  iterate 3 refine v_op hT hC rfl rfl rfl rfl trivial ?_
  rcases sel_some h with ⟨hb1, h⟩ | ⟨hb1, h⟩
  ·
   iterate 2 refine v_on hT hC rfl rfl rfl rfl hb1 rfl rfl rfl trivial ?_
   refine v_pick hC rfl rfl rfl (b := true) hb1 rfl rfl rfl trivial ?_
   refine v_op hT hC rfl rfl rfl rfl trivial ?_
   rcases sel_some h with ⟨hb2, h⟩ | ⟨hb2, h⟩
   ·
    refine v_off hC rfl rfl rfl rfl hb2 rfl rfl ?_
    refine v_off hC rfl rfl rfl rfl hb2 rfl rfl ?_
    refine v_off hC rfl rfl rfl rfl hb2 rfl rfl ?_
    refine v_off hC rfl rfl rfl rfl hb2 rfl rfl ?_
    refine v_off hC rfl rfl rfl rfl hb2 rfl rfl ?_
    refine v_off hC rfl rfl rfl rfl hb2 rfl rfl ?_
    refine v_pick hC rfl rfl rfl (b := true) hb2 rfl rfl rfl trivial ?_
    refine Vc.nil ?_
    injection h with h
    subst h
    refine m_norm ?_
    apply w_conv hC []
    ·
     exact co
    ·
     rfl
    ·
     decide
    ·
     rfl
   ·
    iterate 6 refine v_on hT hC rfl rfl rfl rfl hb2 rfl rfl rfl trivial ?_
    refine v_pick hC rfl rfl rfl (b := false) hb2 rfl rfl rfl trivial ?_
    refine Vc.nil ?_
    injection h with h
    subst h
    refine m_norm ?_
    apply w_conv hC []
    ·
     exact co
    ·
     rfl
    ·
     decide
    ·
     rfl
  ·
   refine v_off hC rfl rfl rfl rfl hb1 rfl rfl ?_
   refine v_off hC rfl rfl rfl rfl hb1 rfl rfl ?_
   refine v_pick hC rfl rfl rfl (b := false) hb1 rfl rfl rfl trivial ?_
   refine v_op hT hC rfl rfl rfl rfl trivial ?_
   iterate 6 refine v_on hT hC rfl rfl rfl rfl rfl rfl rfl rfl trivial ?_
   refine v_op hT hC rfl rfl rfl rfl trivial ?_
   refine Vc.nil ?_
   injection h with h
   subst h
   refine m_norm ?_
   apply w_conv hC []
   ·
    exact co
   ·
    rfl
   ·
    decide
   ·
    rfl
 rcases sel_some h with ⟨hb3, h⟩ | ⟨hb3, h⟩
 ·
  refine s_true rfl hb3 ?_
  refine s_reg ?_
  iterate 3 refine v_op hT hC rfl rfl rfl rfl trivial ?_
  refine Vc.nil ?_
  refine aw_ret ?_
  refine t_ret ?_
  injection h with h
  subst h
  refine ends (τ := ⟨[(4, .own 16), (5, .sv (.bool false))], [(16, some (.ints .i64 ([] : List Int)))]⟩) ?_ rfl ⟨rfl, trivial⟩
  apply w_conv hC [(16, 368)]
  ·
   exact co
  ·
   rfl
  ·
   decide
  ·
   rfl
 ·
  refine s_false rfl hb3 ?_
  refine aw_skip ?_
  refine t_norm ?_
  refine s_reg ?_
  iterate 2 refine v_op hT hC rfl rfl rfl rfl trivial ?_
  obtain ⟨hq, h⟩ := req_some h
  refine v_op hT hC rfl rfl rfl rfl ⟨hq.1, hq.2.1, hq.2.2, by decide⟩ ?_
  refine v_op hT hC rfl rfl rfl rfl trivial ?_
  refine Vc.nil ?_
  refine s_in ?_
  refine s_reg ?_
  refine v_op hT hC rfl rfl rfl rfl trivial ?_
  obtain ⟨q2, hq, h⟩ := bnd_some h
  refine v_call hC [(16, 448)] rfl rfl rfl rfl Tryz.call184 (impl_scanOrder_ac hq) rfl (by decide) trivial rfl (.inl rfl) rfl ?_
  iterate 2 refine v_op hT hC rfl rfl rfl rfl trivial ?_
  refine Vc.nil ?_
  refine live [1, 6, 28, 29, 30] [416, 448] (s' := [_, _, _, _, _]) (o' := [_, _]) rfl rfl ?_
  obtain ⟨v6, hl, h⟩ := bnd_some h
  refine s_loop (fun v4 => ([(30, .sv (.int .i64 v4.1))], [(416, some (.ints .i64 v4.2))])) (fun v6 => ([(1, .any), (28, .any), (29, .any), (30, .any)], [(416, some (.ints .i64 v6)), (448, none)])) hl ?_ ?_ ?_
  ·
   try dsimp only
   apply w_conv hC []
   ·
    exact co
   ·
    rfl
   ·
    decide
   ·
    rfl
  ·
   intro v4 s hs
   have h := hs
   unfold impl_Unscanned_l2 at h
   refine s_reg ?_
   refine v_op hT hC rfl rfl rfl rfl trivial ?_
   refine Vc.nil ?_
   refine s_in ?_
   rcases sel_some h with ⟨hb6, h⟩ | ⟨hb6, h⟩
   ·
    refine s_true rfl hb6 ?_
    refine aw_skip ?_
    refine t_norm ?_
    refine s_in ?_
    refine s_block ?_
    refine s_reg ?_
    refine v_op hT hC rfl rfl rfl rfl trivial ?_
    obtain ⟨hq, h⟩ := req_some h
    refine v_op hT hC rfl rfl rfl rfl hq ?_
    obtain ⟨hq, h⟩ := req_some h
    refine v_op hT hC rfl rfl rfl rfl hq ?_
    iterate 2 refine v_op hT hC rfl rfl rfl rfl trivial ?_
    refine Vc.nil ?_
    refine aw_region ?_
    iterate 4 refine v_op hT hC rfl rfl rfl rfl trivial ?_
    obtain ⟨hq, h⟩ := req_some h
    refine v_op hT hC rfl rfl rfl rfl hq ?_
    refine v_op hT hC rfl rfl rfl rfl trivial ?_
    obtain ⟨hq, h⟩ := req_some h
    refine v_op hT hC rfl rfl rfl rfl hq ?_
    obtain ⟨hq, h⟩ := req_some h
    refine v_op hT hC rfl rfl rfl rfl hq ?_
    refine Vc.nil ?_
    refine b_norm ?_
    refine t_norm ?_
    refine aw_region ?_
    iterate 2 refine v_op hT hC rfl rfl rfl rfl trivial ?_
    refine Vc.nil ?_
    injection h with h
    subst h
    refine r_go ?_
    try dsimp only
    apply w_conv hC []
    ·
     exact co
    ·
     rfl
    ·
     decide
    ·
     rfl
   ·
    refine s_false rfl hb6 ?_
    refine aw_exit ?_
    refine t_exit ?_
    injection h with h
    subst h
    refine r_exit ?_
    refine o_out ?_
    apply w_conv hC []
    ·
     exact co
    ·
     rfl
    ·
     decide
    ·
     rfl
  refine t_norm ?_
  refine s_reg ?_
  iterate 3 refine v_op hT hC rfl rfl rfl rfl trivial ?_
  refine Vc.nil ?_
  refine aw_ret ?_
  injection h with h
  subst h
  refine ends (τ := ⟨[(4, .own 16), (5, .sv (.bool true))], [(16, some (.ints .i64 v6))]⟩) ?_ rfl ⟨rfl, trivial⟩
  apply w_conv hC [(16, 416)]
  ·
   exact co
  ·
   rfl
  ·
   decide
  ·
   rfl
def impl_LargeBack_res (r : Int) : AV := .sv (.int .i64 r)
def impl_LargeBack_obs (r : Int) : Objs := []
theorem impl_LargeBack_ac {p0 : Int} {p1 : Int} {r : Int} (h : impl_LargeBack p0 p1 = some r) : AC Tryz.prog 194 [.sv (.int .i64 p0), .sv (.int .i64 p1)] [] (impl_LargeBack_res r) (impl_LargeBack_obs r) := by
 refine ac_of_body hT Tryz.func194 rfl fun C hC => ?_
 unfold impl_LargeBack at h
 refine s_reg ?_
 refine v_op hT hC rfl rfl rfl rfl trivial ?_
 refine Vc.nil ?_
 refine s_in ?_
 refine s_reg ?_
 refine v_op hT hC rfl rfl rfl rfl trivial ?_
 obtain ⟨q1, hq, h⟩ := bnd_some h
 refine v_call hC [] rfl rfl rfl rfl Tryz.call54 (impl_within_ac hq) rfl (by decide) trivial rfl (.inl rfl) rfl ?_
 refine v_op hT hC rfl rfl rfl rfl trivial ?_
 refine Vc.nil ?_
 rcases sel_some h with ⟨hb1, h⟩ | ⟨hb1, h⟩
 ·
  refine s_true rfl hb1 ?_
  refine s_reg ?_
  refine v_op hT hC rfl rfl rfl rfl trivial ?_
  refine Vc.nil ?_
  refine aw_ret ?_
  refine t_ret ?_
  injection h with h
  subst h
  exact ends (Weak.refl _) rfl trivial
 ·
  refine s_false rfl hb1 ?_
  refine aw_skip ?_
  refine t_norm ?_
  refine s_reg ?_
  iterate 2 refine v_op hT hC rfl rfl rfl rfl trivial ?_
  obtain ⟨q2, hq, h⟩ := bnd_some h
  refine v_call hC [] rfl rfl rfl rfl Tryz.call186 (impl_StepOf_ac hq) rfl (by decide) trivial rfl (.inl rfl) rfl ?_
  iterate 2 refine v_op hT hC rfl rfl rfl rfl trivial ?_
  refine Vc.nil ?_
  refine aw_ret ?_
  injection h with h
  subst h
  exact ends (Weak.refl _) rfl trivial
def impl_floor_res (r : Int) : AV := .sv (.int .i64 r)
def impl_floor_obs (r : Int) : Objs := []
theorem impl_floor_ac {p0 : Int} {p1 : Int} {r : Int} (h : impl_floor p0 p1 = some r) : AC Tryz.prog 237 [.sv (.int .i64 p0), .sv (.int .i64 p1)] [] (impl_floor_res r) (impl_floor_obs r) := by
 refine ac_of_body hT Tryz.func237 rfl fun C hC => ?_
 unfold impl_floor at h
 refine s_reg ?_
 refine v_op hT hC rfl rfl rfl rfl trivial ?_
 refine Vc.nil ?_
 refine s_reg ?_
 iterate 2 refine v_op hT hC rfl rfl rfl rfl trivial ?_
 obtain ⟨hq, h⟩ := req_some h
 refine v_op hT hC rfl rfl rfl rfl hq ?_
 refine v_op hT hC rfl rfl rfl rfl trivial ?_
 refine Vc.nil ?_
 refine live [0, 1, 5] [] (s' := [_, _, _]) (o' := []) rfl rfl ?_
 obtain ⟨v1, h1, h⟩ := bnd_some h
 refine aw_to ([(5, .sv (.int .i64 v1)), (0, .any), (1, .any)], []) ?_ ?_
 ·
  have h := h1
  refine s_reg ?_
  iterate 2 refine v_op hT hC rfl rfl rfl rfl trivial ?_
  obtain ⟨hq, h⟩ := req_some h
  refine v_op hT hC rfl rfl rfl rfl hq ?_
  refine v_op hT hC rfl rfl rfl rfl trivial ?_
  refine Vc.nil ?_
  rcases sel_some h with ⟨hb1, h⟩ | ⟨hb1, h⟩
  ·
   refine s_true rfl hb1 ?_
   refine aw_region ?_
   iterate 3 refine v_op hT hC rfl rfl rfl rfl trivial ?_
   refine Vc.nil ?_
   injection h with h
   subst h
   refine m_norm ?_
   apply w_conv hC []
   ·
    exact co
   ·
    rfl
   ·
    decide
   ·
    rfl
  ·
   refine s_false rfl hb1 ?_
   refine aw_skip ?_
   injection h with h
   subst h
   refine m_norm ?_
   apply w_conv hC []
   ·
    exact co
   ·
    rfl
   ·
    decide
   ·
    rfl
 refine s_reg ?_
 iterate 2 refine v_op hT hC rfl rfl rfl rfl trivial ?_
 refine Vc.nil ?_
 refine aw_ret ?_
 injection h with h
 subst h
 exact ends (Weak.refl _) rfl trivial
def impl_settled_res (r : ((List Int) × (List Int))) : AV := .own 0
def impl_settled_obs (r : ((List Int) × (List Int))) : Objs := [(0, .ints .i64 r.2)]
theorem impl_settled_ac {p0 : (List Int)} {r : ((List Int) × (List Int))} (h : impl_settled p0 = some r) : AC Tryz.prog 234 [.own 0] [(0, .ints .i64 p0)] (impl_settled_res r) (impl_settled_obs r) := by
 refine ac_of_body hT Tryz.func234 rfl fun C hC => ?_
 unfold impl_settled at h
 refine s_reg ?_
 refine v_op hT hC rfl rfl rfl rfl trivial ?_
 refine Vc.nil ?_
 refine s_in ?_
 refine s_reg ?_
 iterate 3 refine v_op hT hC rfl rfl rfl rfl trivial ?_
 refine Vc.nil ?_
 refine live [0, 5, 6, 7] [0] (s' := [_, _, _, _]) (o' := [_]) rfl rfl ?_
 obtain ⟨v6, hl, h⟩ := bnd_some h
 refine s_loop (fun v3 => ([(7, .sv (.int .i64 v3.1))], [(0, some (.ints .i64 v3.2))])) (fun v6 => ([(5, .any), (6, .any), (7, .any)], [(0, some (.ints .i64 v6))])) hl ?_ ?_ ?_
 ·
  try dsimp only
  apply w_conv hC []
  ·
   exact co
  ·
   rfl
  ·
   decide
  ·
   rfl
 ·
  intro v3 s hs
  have h := hs
  unfold impl_settled_l2 at h
  refine s_reg ?_
  refine v_op hT hC rfl rfl rfl rfl trivial ?_
  refine Vc.nil ?_
  refine s_in ?_
  rcases sel_some h with ⟨hb3, h⟩ | ⟨hb3, h⟩
  ·
   refine s_true rfl hb3 ?_
   refine aw_skip ?_
   refine t_norm ?_
   refine s_in ?_
   refine s_block ?_
   refine s_reg ?_
   refine v_op hT hC rfl rfl rfl rfl trivial ?_
   obtain ⟨hq, h⟩ := req_some h
   refine v_op hT hC rfl rfl rfl rfl hq ?_
   obtain ⟨hq, h⟩ := req_some h
   refine v_op hT hC rfl rfl rfl rfl hq ?_
   iterate 2 refine v_op hT hC rfl rfl rfl rfl trivial ?_
   refine Vc.nil ?_
   refine aw_region ?_
   iterate 4 refine v_op hT hC rfl rfl rfl rfl trivial ?_
   obtain ⟨q7, hq, h⟩ := bnd_some h
   refine v_call hC [] rfl rfl rfl rfl Tryz.call237 (impl_floor_ac hq) rfl (by decide) trivial rfl (.inl rfl) rfl ?_
   obtain ⟨hq, h⟩ := req_some h
   refine v_op hT hC rfl rfl rfl rfl hq ?_
   obtain ⟨hq, h⟩ := req_some h
   refine v_op hT hC rfl rfl rfl rfl hq ?_
   refine Vc.nil ?_
   refine b_norm ?_
   refine t_norm ?_
   refine aw_region ?_
   iterate 2 refine v_op hT hC rfl rfl rfl rfl trivial ?_
   refine Vc.nil ?_
   injection h with h
   subst h
   refine r_go ?_
   try dsimp only
   apply w_conv hC []
   ·
    exact co
   ·
    rfl
   ·
    decide
   ·
    rfl
  ·
   refine s_false rfl hb3 ?_
   refine aw_exit ?_
   refine t_exit ?_
   injection h with h
   subst h
   refine r_exit ?_
   refine o_out ?_
   apply w_conv hC []
   ·
    exact co
   ·
    rfl
   ·
    decide
   ·
    rfl
 refine t_norm ?_
 refine s_reg ?_
 iterate 2 refine v_op hT hC rfl rfl rfl rfl trivial ?_
 refine Vc.nil ?_
 refine aw_ret ?_
 injection h with h
 subst h
 exact ends (Weak.refl _) rfl ⟨rfl, trivial⟩
def impl_EightBack_res (r : (List Int)) : AV := .own 16
def impl_EightBack_obs (r : (List Int)) : Objs := [(16, .ints .i64 r)]
theorem impl_EightBack_ac {p0 : (List Int)} {r : (List Int)} (h : impl_EightBack p0 = some r) : AC Tryz.prog 195 [.sv (.ints .i64 p0)] [] (impl_EightBack_res r) (impl_EightBack_obs r) := by
 refine ac_of_body hT Tryz.func195 rfl fun C hC => ?_
 unfold impl_EightBack at h
 refine s_reg ?_
 refine v_op hT hC rfl rfl rfl rfl trivial ?_
 refine Vc.nil ?_
 refine s_in ?_
 refine s_reg ?_
 refine v_op hT hC rfl rfl rfl rfl trivial ?_
 obtain ⟨q1, hq, h⟩ := bnd_some h
 refine v_call hC [] rfl rfl rfl rfl Tryz.call52 (impl_areIn_ac hq) rfl (by decide) trivial rfl (.inl rfl) rfl ?_
 refine v_op hT hC rfl rfl rfl rfl trivial ?_
 refine Vc.nil ?_
 rcases sel_some h with ⟨hb1, h⟩ | ⟨hb1, h⟩
 ·
  refine s_true rfl hb1 ?_
  refine s_reg ?_
  iterate 2 refine v_op hT hC rfl rfl rfl rfl trivial ?_
  refine Vc.nil ?_
  refine aw_ret ?_
  refine t_ret ?_
  injection h with h
  subst h
  refine ends (τ := ⟨[(2, .own 16)], [(16, some (.ints .i64 ([] : List Int)))]⟩) ?_ rfl ⟨rfl, trivial⟩
  apply w_conv hC [(16, 96)]
  ·
   exact co
  ·
   rfl
  ·
   decide
  ·
   rfl
 ·
  refine s_false rfl hb1 ?_
  refine aw_skip ?_
  refine t_norm ?_
  refine s_reg ?_
  refine v_op hT hC rfl rfl rfl rfl trivial ?_
  obtain ⟨q2, hq, h⟩ := bnd_some h
  refine v_call hC [(16, 128)] rfl rfl rfl rfl Tryz.call185 (impl_sums_ac hq) rfl (by decide) trivial rfl (.inl rfl) rfl ?_
  obtain ⟨q3, hq, h⟩ := bnd_some h
  refine v_call hC [(0, 128)] rfl rfl rfl rfl Tryz.call234 (impl_settled_ac hq) rfl (by decide) ⟨rfl, trivial⟩ rfl (.inl rfl) rfl ?_
  refine v_op hT hC rfl rfl rfl rfl trivial ?_
  refine Vc.nil ?_
  refine aw_ret ?_
  injection h with h
  subst h
  refine ends (τ := ⟨[(2, .own 16)], [(16, some (.ints .i64 q3.2))]⟩) ?_ rfl ⟨rfl, trivial⟩
  apply w_conv hC [(16, 128)]
  ·
   exact co
  ·
   rfl
  ·
   decide
  ·
   rfl
def impl_ScaleOf_res (r : Int) : AV := .sv (.int .i64 r)
def impl_ScaleOf_obs (r : Int) : Objs := []
theorem impl_ScaleOf_ac {p0 : Int} {p1 : Int} {r : Int} (h : impl_ScaleOf p0 p1 = some r) : AC Tryz.prog 235 [.sv (.int .i64 p0), .sv (.int .i64 p1)] [] (impl_ScaleOf_res r) (impl_ScaleOf_obs r) := by
 refine ac_of_body hT Tryz.func235 rfl fun C hC => ?_
 unfold impl_ScaleOf at h
 refine s_reg ?_
 refine v_op hT hC rfl rfl rfl rfl trivial ?_
 refine Vc.nil ?_
 refine s_in ?_
 refine live [0, 1] [] (s' := [_, _]) (o' := []) rfl rfl ?_
 obtain ⟨v1, h1, h⟩ := bnd_some h
 refine aw_to ([(13, .sv (.bool v1))], []) ?_ ?_
 ·
  have h := h1
  refine aw_region ?_
  refine v_op hT hC rfl rfl rfl rfl trivial ?_
  obtain ⟨q2, hq, h⟩ := bnd_some h
  refine v_call hC [] rfl rfl rfl rfl Tryz.call54 (impl_within_ac hq) rfl (by decide) trivial rfl (.inl rfl) rfl ?_
  iterate 2 refine v_op hT hC rfl rfl rfl rfl trivial ?_
  rcases sel_some h with ⟨hb1, h⟩ | ⟨hb1, h⟩
  ·
   refine v_on hT hC rfl rfl rfl rfl (congrArg Bool.not hb1) rfl rfl rfl trivial ?_
   obtain ⟨q3, hq, h⟩ := bnd_some h
   refine v_call_on hC [] rfl rfl rfl rfl (congrArg Bool.not hb1) rfl rfl rfl Tryz.call54 (impl_within_ac hq) rfl (by decide) trivial rfl (.inl rfl) rfl ?_
   refine v_on hT hC rfl rfl rfl rfl (congrArg Bool.not hb1) rfl rfl rfl trivial ?_
   refine v_pick hC rfl rfl rfl (b := false) (congrArg Bool.not hb1) rfl rfl rfl trivial ?_
   refine Vc.nil ?_
   injection h with h
   subst h
   refine m_norm ?_
   apply w_conv hC []
   ·
    exact co
   ·
    rfl
   ·
    decide
   ·
    rfl
  ·
   refine v_off hC rfl rfl rfl rfl (congrArg Bool.not hb1) rfl rfl ?_
   refine v_off hC rfl rfl rfl rfl (congrArg Bool.not hb1) rfl rfl ?_
   refine v_off hC rfl rfl rfl rfl (congrArg Bool.not hb1) rfl rfl ?_
   refine v_pick hC rfl rfl rfl (b := true) (congrArg Bool.not hb1) rfl rfl rfl trivial ?_
   refine Vc.nil ?_
   injection h with h
   subst h
   refine m_norm ?_
   apply w_conv hC []
   ·
    exact co
   ·
    rfl
   ·
    decide
   ·
    rfl
 rcases sel_some h with ⟨hb2, h⟩ | ⟨hb2, h⟩
 ·
  refine s_true rfl hb2 ?_
  refine s_reg ?_
  refine v_op hT hC rfl rfl rfl rfl trivial ?_
  refine Vc.nil ?_
  refine aw_ret ?_
  refine t_ret ?_
  injection h with h
  subst h
  exact ends (Weak.refl _) rfl trivial
 ·
  refine s_false rfl hb2 ?_
  refine aw_skip ?_
  refine t_norm ?_
  refine s_reg ?_
  iterate 9 refine v_op hT hC rfl rfl rfl rfl trivial ?_
  refine Vc.nil ?_
  refine s_draw hm ?_
  refine v_op hT hC rfl rfl rfl rfl trivial ?_
  obtain ⟨hq, h⟩ := req_some h
  refine v_op hT hC rfl rfl rfl rfl hq ?_
  refine v_op hT hC rfl rfl rfl rfl trivial ?_
  obtain ⟨q4, hq, h⟩ := bnd_some h
  refine v_call hC [] rfl rfl rfl rfl Tryz.call232 (impl_KindOf_ac hq) rfl (by decide) trivial rfl (.inl rfl) rfl ?_
  obtain ⟨hq, h⟩ := req_some h
  refine v_op hT hC rfl rfl rfl rfl hq ?_
  obtain ⟨hq, h⟩ := req_some h
  refine v_op hT hC rfl rfl rfl rfl hq ?_
  obtain ⟨hq, h⟩ := req_some h
  refine v_tab hT hC rfl rfl rfl rfl rfl rfl hq ?_
  refine v_op hT hC rfl rfl rfl rfl trivial ?_
  obtain ⟨hq, h⟩ := req_some h
  refine v_op hT hC rfl rfl rfl rfl hq ?_
  obtain ⟨hq, h⟩ := req_some h
  refine v_op hT hC rfl rfl rfl rfl hq ?_
  refine v_op hT hC rfl rfl rfl rfl trivial ?_
  refine Vc.nil ⟨by kernel_rfl, ?_⟩
  refine aw_ret ?_
  injection h with h
  subst h
  exact ends (Weak.refl _) rfl trivial
def impl_SmallBack_res (r : Int) : AV := .sv (.int .i64 r)
def impl_SmallBack_obs (r : Int) : Objs := []
theorem impl_SmallBack_ac {p0 : Int} {p1 : Int} {p2 : Int} {r : Int} (h : impl_SmallBack p0 p1 p2 = some r) : AC Tryz.prog 196 [.sv (.int .i64 p0), .sv (.int .i64 p1), .sv (.int .i64 p2)] [] (impl_SmallBack_res r) (impl_SmallBack_obs r) := by
 refine ac_of_body hT Tryz.func196 rfl fun C hC => ?_
 unfold impl_SmallBack at h
 refine s_reg ?_
 refine v_op hT hC rfl rfl rfl rfl trivial ?_
 refine Vc.nil ?_
 refine s_in ?_
 refine s_reg ?_
 refine v_op hT hC rfl rfl rfl rfl trivial ?_
 obtain ⟨q1, hq, h⟩ := bnd_some h
 refine v_call hC [] rfl rfl rfl rfl Tryz.call54 (impl_within_ac hq) rfl (by decide) trivial rfl (.inl rfl) rfl ?_
 refine v_op hT hC rfl rfl rfl rfl trivial ?_
 refine Vc.nil ?_
 rcases sel_some h with ⟨hb1, h⟩ | ⟨hb1, h⟩
 ·
  refine s_true rfl hb1 ?_
  refine s_reg ?_
  refine v_op hT hC rfl rfl rfl rfl trivial ?_
  refine Vc.nil ?_
  refine aw_ret ?_
  refine t_ret ?_
  injection h with h
  subst h
  exact ends (Weak.refl _) rfl trivial
 ·
  refine s_false rfl hb1 ?_
  refine aw_skip ?_
  refine t_norm ?_
  refine s_reg ?_
  iterate 3 refine v_op hT hC rfl rfl rfl rfl trivial ?_
  obtain ⟨q2, hq, h⟩ := bnd_some h
  refine v_call hC [] rfl rfl rfl rfl Tryz.call235 (impl_ScaleOf_ac hq) rfl (by decide) trivial rfl (.inl rfl) rfl ?_
  iterate 2 refine v_op hT hC rfl rfl rfl rfl trivial ?_
  refine Vc.nil ?_
  refine aw_ret ?_
  injection h with h
  subst h
  exact ends (Weak.refl _) rfl trivial
def impl_FourBack_1_res (r : (Int × Int × Int × Int)) : AV := .agg [.sv (.int .i64 r.1), .sv (.int .i64 r.2.1), .sv (.int .i64 r.2.2.1), .sv (.int .i64 r.2.2.2)]
def impl_FourBack_1_obs (r : (Int × Int × Int × Int)) : Objs := []
theorem impl_FourBack_1_ac {p0 : Int} {p1 : Int} {p2 : Int} {p3 : Int} {r : (Int × Int × Int × Int)} (h : impl_FourBack_1 p0 p1 p2 p3 = some r) : AC Tryz.prog 236 [.sv (.int .i64 p0), .sv (.int .i64 p1), .sv (.int .i64 p2), .sv (.int .i64 p3)] [] (impl_FourBack_1_res r) (impl_FourBack_1_obs r) := by
 refine ac_of_body hT Tryz.func236 rfl fun C hC => ?_
 unfold impl_FourBack_1 at h
 refine s_reg ?_
 refine v_op hT hC rfl rfl rfl rfl trivial ?_
 refine Vc.nil ?_
 refine s_reg ?_
 iterate 7 refine v_op hT hC rfl rfl rfl rfl trivial ?_
 obtain ⟨q1, hq, h⟩ := bnd_some h
 refine v_call hC [] rfl rfl rfl rfl Tryz.call237 (impl_floor_ac hq) rfl (by decide) trivial rfl (.inl rfl) rfl ?_
 iterate 4 refine v_op hT hC rfl rfl rfl rfl trivial ?_
 obtain ⟨q2, hq, h⟩ := bnd_some h
 refine v_call hC [] rfl rfl rfl rfl Tryz.call237 (impl_floor_ac hq) rfl (by decide) trivial rfl (.inl rfl) rfl ?_
 iterate 5 refine v_op hT hC rfl rfl rfl rfl trivial ?_
 refine Vc.nil ?_
 refine s_reg ?_
 iterate 14 refine v_op hT hC rfl rfl rfl rfl trivial ?_
 refine Vc.nil ?_
 refine aw_ret ?_
 injection h with h
 subst h
 exact ends (Weak.refl _) rfl trivial
end
end Go.Proofs.YtpmljllgnocjkaaGreat.A
