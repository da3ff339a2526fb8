/- Contracts of the functions that the law FnInOrder reaches, part 2: each comes to what its pure function tells. Written by a program of this session. Conditions: as each statement tells. -/
import Derived.Test.YtgmcephkajhfjaaGreatFFnInOrderx1
namespace Go.Proofs.YtgmcephkajhfjaaGreat.A
open Go Go.Proofs Go.Proofs.YtgmcephkajhfjaaGreatAL Go.RowKit
set_option linter.unusedVariables false
set_option linter.unusedSimpArgs false
set_option maxRecDepth 100000
set_option maxHeartbeats 2000000
noncomputable section
def spec_ScaleOf_res (r : Int) : AV := .sv (.int .i64 r)
def spec_ScaleOf_obs (r : Int) : Objs := []
theorem spec_ScaleOf_ac {p0 : Int} {p1 : Int} {r : Int} (h : spec_ScaleOf p0 p1 = some r) : AC Tryz.prog 144 [.sv (.int .i64 p0), .sv (.int .i64 p1)] [] (spec_ScaleOf_res r) (spec_ScaleOf_obs r) := by
 refine ac_of_body hT Tryz.func144 rfl fun C hC => ?_
 unfold spec_ScaleOf at h
 refine s_reg ?_
 refine v_op hT hC rfl rfl rfl rfl trivial ?_
 refine Vc.nil ?_
 refine s_reg ?_
 refine v_op hT hC rfl rfl rfl rfl trivial ?_
 obtain ⟨q1, hq, h⟩ := bnd_some h
 refine v_call hC [] rfl rfl rfl rfl Tryz.call148 (spec_KindOf_ac hq) rfl (by decide) trivial rfl (.inl rfl) rfl ?_
 refine v_op hT hC rfl rfl rfl rfl trivial ?_
 refine Vc.nil ?_
 refine s_in ?_
 refine live [0, 5] [] (s' := [_, _]) (o' := []) rfl rfl ?_
 obtain ⟨v2, h1, h⟩ := bnd_some h
 refine aw_to ([(16, .sv (.bool v2))], []) ?_ ?_
 ·
  have h := h1
  refine aw_region ?_
  refine v_op hT hC rfl rfl rfl rfl trivial ?_
  obtain ⟨q3, hq, h⟩ := bnd_some h
  refine v_call hC [] rfl rfl rfl rfl Tryz.call48 (spec_l01In_ac hq) rfl (by decide) trivial rfl (.inl rfl) rfl ?_
  iterate 2 refine v_op hT hC rfl rfl rfl rfl trivial ?_
  rcases sel_some h with ⟨hb1, h⟩ | ⟨hb1, h⟩
  ·
   iterate 2 refine v_on hT hC rfl rfl rfl rfl (congrArg Bool.not hb1) rfl rfl rfl trivial ?_
   refine v_pick hC rfl rfl rfl (b := false) (congrArg Bool.not hb1) rfl rfl rfl trivial ?_
   refine Vc.nil ?_
   injection h with h
   subst h
   refine m_norm ?_
   apply w_conv hC []
   ·
    exact co
   ·
    rfl
   ·
    decide
   ·
    rfl
  ·
   refine v_off hC rfl rfl rfl rfl (congrArg Bool.not hb1) rfl rfl ?_
   refine v_off hC rfl rfl rfl rfl (congrArg Bool.not hb1) rfl rfl ?_
   refine v_pick hC rfl rfl rfl (b := true) (congrArg Bool.not hb1) rfl rfl rfl trivial ?_
   refine Vc.nil ?_
   injection h with h
   subst h
   refine m_norm ?_
   apply w_conv hC []
   ·
    exact co
   ·
    rfl
   ·
    decide
   ·
    rfl
 rcases sel_some h with ⟨hb2, h⟩ | ⟨hb2, h⟩
 ·
  refine s_true rfl hb2 ?_
  refine s_reg ?_
  refine v_op hT hC rfl rfl rfl rfl trivial ?_
  refine Vc.nil ?_
  refine aw_ret ?_
  refine t_ret ?_
  injection h with h
  subst h
  exact ends (Weak.refl _) rfl trivial
 ·
  refine s_false rfl hb2 ?_
  refine aw_skip ?_
  refine t_norm ?_
  refine s_reg ?_
  refine v_op hT hC rfl rfl rfl rfl trivial ?_
  refine Vc.nil ?_
  refine live [0, 5, 6] [] (s' := [_, _, _]) (o' := []) rfl rfl ?_
  obtain ⟨v4, h1, h⟩ := bnd_some h
  refine aw_to ([(6, .sv (.int .i64 v4)), (5, .any)], []) ?_ ?_
  ·
   have h := h1
   refine s_reg ?_
   refine v_op hT hC rfl rfl rfl rfl trivial ?_
   obtain ⟨hq, h⟩ := req_some h
   refine v_op hT hC rfl rfl rfl rfl hq ?_
   refine Vc.nil ?_
   refine s_block ?_
   refine s_reg ?_
   iterate 2 refine v_op hT hC rfl rfl rfl rfl trivial ?_
   refine Vc.nil ?_
   rcases sel_some h with ⟨hb3, h⟩ | ⟨hb3, h⟩
   ·
    refine s_true rfl hb3 ?_
    refine aw_region ?_
    refine v_op hT hC rfl rfl rfl rfl trivial ?_
    obtain ⟨q5, hq, h⟩ := bnd_some h
    refine v_call hC [] rfl rfl rfl rfl Tryz.call149 (spec_l08Pick_ac hq) rfl (by decide) trivial rfl (.inl rfl) rfl ?_
    refine v_op hT hC rfl rfl rfl rfl trivial ?_
    refine Vc.nil ?_
    refine b_norm ?_
    injection h with h
    subst h
    refine m_norm ?_
    apply w_conv hC []
    ·
     exact co
    ·
     rfl
    ·
     decide
    ·
     rfl
   ·
    refine s_false rfl hb3 ?_
    refine s_reg ?_
    iterate 2 refine v_op hT hC rfl rfl rfl rfl trivial ?_
    refine Vc.nil ?_
    rcases sel_some h with ⟨hb4, h⟩ | ⟨hb4, h⟩
    ·
     refine s_true rfl hb4 ?_
     refine aw_region ?_
     refine v_op hT hC rfl rfl rfl rfl trivial ?_
     obtain ⟨q6, hq, h⟩ := bnd_some h
     refine v_call hC [] rfl rfl rfl rfl Tryz.call149 (spec_l08Pick_ac hq) rfl (by decide) trivial rfl (.inl rfl) rfl ?_
     refine v_op hT hC rfl rfl rfl rfl trivial ?_
     refine Vc.nil ?_
     refine b_norm ?_
     injection h with h
     subst h
     refine m_norm ?_
     apply w_conv hC []
     ·
      exact co
     ·
      rfl
     ·
      decide
     ·
      rfl
    ·
     refine s_false rfl hb4 ?_
     refine s_reg ?_
     iterate 2 refine v_op hT hC rfl rfl rfl rfl trivial ?_
     refine Vc.nil ?_
     rcases sel_some h with ⟨hb5, h⟩ | ⟨hb5, h⟩
     ·
      refine s_true rfl hb5 ?_
      refine aw_region ?_
      refine v_op hT hC rfl rfl rfl rfl trivial ?_
      obtain ⟨q7, hq, h⟩ := bnd_some h
      refine v_call hC [] rfl rfl rfl rfl Tryz.call149 (spec_l08Pick_ac hq) rfl (by decide) trivial rfl (.inl rfl) rfl ?_
      refine v_op hT hC rfl rfl rfl rfl trivial ?_
      refine Vc.nil ?_
      refine b_norm ?_
      injection h with h
      subst h
      refine m_norm ?_
      apply w_conv hC []
      ·
       exact co
      ·
       rfl
      ·
       decide
      ·
       rfl
     ·
      refine s_false rfl hb5 ?_
      refine s_reg ?_
      iterate 2 refine v_op hT hC rfl rfl rfl rfl trivial ?_
      refine Vc.nil ?_
      rcases sel_some h with ⟨hb6, h⟩ | ⟨hb6, h⟩
      ·
       refine s_true rfl hb6 ?_
       refine aw_region ?_
       refine v_op hT hC rfl rfl rfl rfl trivial ?_
       obtain ⟨q8, hq, h⟩ := bnd_some h
       refine v_call hC [] rfl rfl rfl rfl Tryz.call149 (spec_l08Pick_ac hq) rfl (by decide) trivial rfl (.inl rfl) rfl ?_
       refine v_op hT hC rfl rfl rfl rfl trivial ?_
       refine Vc.nil ?_
       refine b_norm ?_
       injection h with h
       subst h
       refine m_norm ?_
       apply w_conv hC []
       ·
        exact co
       ·
        rfl
       ·
        decide
       ·
        rfl
      ·
       refine s_false rfl hb6 ?_
       refine s_reg ?_
       iterate 2 refine v_op hT hC rfl rfl rfl rfl trivial ?_
       refine Vc.nil ?_
       rcases sel_some h with ⟨hb7, h⟩ | ⟨hb7, h⟩
       ·
        refine s_true rfl hb7 ?_
        refine aw_region ?_
        refine v_op hT hC rfl rfl rfl rfl trivial ?_
        obtain ⟨q9, hq, h⟩ := bnd_some h
        refine v_call hC [] rfl rfl rfl rfl Tryz.call149 (spec_l08Pick_ac hq) rfl (by decide) trivial rfl (.inl rfl) rfl ?_
        refine v_op hT hC rfl rfl rfl rfl trivial ?_
        refine Vc.nil ?_
        refine b_norm ?_
        injection h with h
        subst h
        refine m_norm ?_
        apply w_conv hC []
        ·
         exact co
        ·
         rfl
        ·
         decide
        ·
         rfl
       ·
        refine s_false rfl hb7 ?_
        refine s_reg ?_
        iterate 2 refine v_op hT hC rfl rfl rfl rfl trivial ?_
        refine Vc.nil ?_
        rcases sel_some h with ⟨hb8, h⟩ | ⟨hb8, h⟩
        ·
         refine s_true rfl hb8 ?_
         refine aw_region ?_
         refine v_op hT hC rfl rfl rfl rfl trivial ?_
         obtain ⟨q10, hq, h⟩ := bnd_some h
         refine v_call hC [] rfl rfl rfl rfl Tryz.call149 (spec_l08Pick_ac hq) rfl (by decide) trivial rfl (.inl rfl) rfl ?_
         refine v_op hT hC rfl rfl rfl rfl trivial ?_
         refine Vc.nil ?_
         refine b_norm ?_
         injection h with h
         subst h
         refine m_norm ?_
         apply w_conv hC []
         ·
          exact co
         ·
          rfl
         ·
          decide
         ·
          rfl
        ·
         refine s_false rfl hb8 ?_
         refine aw_skip ?_
         refine b_norm ?_
         injection h with h
         subst h
         refine m_norm ?_
         apply w_conv hC []
         ·
          exact co
         ·
          rfl
         ·
          decide
         ·
          rfl
  refine s_in ?_
  refine s_reg ?_
  refine v_op hT hC rfl rfl rfl rfl trivial ?_
  refine Vc.nil ?_
  refine live [0, 6, 7] [] (s' := [_, _, _]) (o' := []) rfl rfl ?_
  obtain ⟨v14, hl, h⟩ := bnd_some h
  refine s_loop (fun v12 => ([(6, .sv (.int .i64 v12.1)), (7, .sv (.int .i64 v12.2))], [])) (fun v14 => ([(6, .sv (.int .i64 v14)), (0, .any), (7, .any)], [])) hl ?_ ?_ ?_
  ·
   try dsimp only
   apply w_conv hC []
   ·
    exact co
   ·
    rfl
   ·
    decide
   ·
    rfl
  ·
   intro v12 s hs
   have h := hs
   unfold spec_ScaleOf_l2 at h
   refine s_in ?_
   refine s_reg ?_
   iterate 2 refine v_op hT hC rfl rfl rfl rfl trivial ?_
   obtain ⟨hq, h⟩ := req_some h
   refine v_op hT hC rfl rfl rfl rfl hq ?_
   refine v_op hT hC rfl rfl rfl rfl trivial ?_
   refine Vc.nil ?_
   rcases sel_some h with ⟨hb11, h⟩ | ⟨hb11, h⟩
   ·
    refine s_true rfl hb11 ?_
    refine aw_skip ?_
    refine t_norm ?_
    refine s_in ?_
    refine s_block ?_
    refine aw_region ?_
    iterate 3 refine v_op hT hC rfl rfl rfl rfl trivial ?_
    refine Vc.nil ?_
    refine b_norm ?_
    refine t_norm ?_
    refine aw_region ?_
    iterate 3 refine v_op hT hC rfl rfl rfl rfl trivial ?_
    refine Vc.nil ?_
    injection h with h
    subst h
    refine r_go ?_
    try dsimp only
    apply w_conv hC []
    ·
     exact co
    ·
     rfl
    ·
     decide
    ·
     rfl
   ·
    refine s_false rfl hb11 ?_
    refine aw_exit ?_
    refine t_exit ?_
    injection h with h
    subst h
    refine r_exit ?_
    refine o_out ?_
    apply w_conv hC []
    ·
     exact co
    ·
     rfl
    ·
     decide
    ·
     rfl
  refine t_norm ?_
  refine s_reg ?_
  iterate 2 refine v_op hT hC rfl rfl rfl rfl trivial ?_
  refine Vc.nil ?_
  refine aw_ret ?_
  injection h with h
  subst h
  exact ends (Weak.refl _) rfl trivial
def spec_SmallBack_res (r : Int) : AV := .sv (.int .i64 r)
def spec_SmallBack_obs (r : Int) : Objs := []
theorem spec_SmallBack_ac {p0 : Int} {p1 : Int} {p2 : Int} {r : Int} (h : spec_SmallBack p0 p1 p2 = some r) : AC Tryz.prog 130 [.sv (.int .i64 p0), .sv (.int .i64 p1), .sv (.int .i64 p2)] [] (spec_SmallBack_res r) (spec_SmallBack_obs r) := by
 refine ac_of_body hT Tryz.func130 rfl fun C hC => ?_
 unfold spec_SmallBack at h
 refine s_reg ?_
 refine v_op hT hC rfl rfl rfl rfl trivial ?_
 refine Vc.nil ?_
 refine s_in ?_
 refine s_reg ?_
 refine v_op hT hC rfl rfl rfl rfl trivial ?_
 obtain ⟨q1, hq, h⟩ := bnd_some h
 refine v_call hC [] rfl rfl rfl rfl Tryz.call48 (spec_l01In_ac hq) rfl (by decide) trivial rfl (.inl rfl) rfl ?_
 refine v_op hT hC rfl rfl rfl rfl trivial ?_
 refine Vc.nil ?_
 rcases sel_some h with ⟨hb1, h⟩ | ⟨hb1, h⟩
 ·
  refine s_true rfl hb1 ?_
  refine s_reg ?_
  refine v_op hT hC rfl rfl rfl rfl trivial ?_
  refine Vc.nil ?_
  refine aw_ret ?_
  refine t_ret ?_
  injection h with h
  subst h
  exact ends (Weak.refl _) rfl trivial
 ·
  refine s_false rfl hb1 ?_
  refine aw_skip ?_
  refine t_norm ?_
  refine s_reg ?_
  iterate 3 refine v_op hT hC rfl rfl rfl rfl trivial ?_
  obtain ⟨q2, hq, h⟩ := bnd_some h
  refine v_call hC [] rfl rfl rfl rfl Tryz.call144 (spec_ScaleOf_ac hq) rfl (by decide) trivial rfl (.inl rfl) rfl ?_
  iterate 2 refine v_op hT hC rfl rfl rfl rfl trivial ?_
  refine Vc.nil ?_
  refine aw_ret ?_
  injection h with h
  subst h
  exact ends (Weak.refl _) rfl trivial
def spec_l09Backs_res (r : (List Int)) : AV := .own 16
def spec_l09Backs_obs (r : (List Int)) : Objs := [(16, .ints .i64 r)]
theorem spec_l09Backs_ac {p0 : (List Int)} {r : (List Int)} (h : spec_l09Backs p0 = some r) : AC Tryz.prog 145 [.sv (.ints .i64 p0)] [] (spec_l09Backs_res r) (spec_l09Backs_obs r) := by
 refine ac_of_body hT Tryz.func145 rfl fun C hC => ?_
 unfold spec_l09Backs at h
 refine s_reg ?_
 refine v_op hT hC rfl rfl rfl rfl trivial ?_
 refine Vc.nil ?_
 refine s_reg ?_
 iterate 2 refine v_op hT hC rfl rfl rfl rfl trivial ?_
 refine Vc.nil ?_
 refine s_in ?_
 refine s_reg ?_
 refine v_op hT hC rfl rfl rfl rfl trivial ?_
 refine Vc.nil ?_
 refine live [0, 3, 4] [208] (s' := [_, _, _]) (o' := [_]) rfl rfl ?_
 obtain ⟨v8, hl, h⟩ := bnd_some h
 refine s_loop (fun v4 => ([(4, .sv (.int .i64 v4.1))], [(208, some (.ints .i64 v4.2))])) (fun v8 => ([(0, .any), (4, .any)], [(208, some (.ints .i64 v8))])) hl ?_ ?_ ?_
 ·
  try dsimp only
  apply w_conv hC []
  ·
   exact co
  ·
   rfl
  ·
   decide
  ·
   rfl
 ·
  intro v4 s hs
  have h := hs
  unfold spec_l09Backs_l2 at h
  refine s_in ?_
  refine s_reg ?_
  iterate 2 refine v_op hT hC rfl rfl rfl rfl trivial ?_
  refine Vc.nil ?_
  rcases sel_some h with ⟨hb3, h⟩ | ⟨hb3, h⟩
  ·
   refine s_true rfl hb3 ?_
   refine aw_skip ?_
   refine t_norm ?_
   refine s_in ?_
   refine s_block ?_
   refine s_reg ?_
   iterate 3 refine v_op hT hC rfl rfl rfl rfl trivial ?_
   obtain ⟨hq, h⟩ := req_some h
   refine v_op hT hC rfl rfl rfl rfl hq ?_
   iterate 2 refine v_op hT hC rfl rfl rfl rfl trivial ?_
   refine Vc.nil ?_
   refine s_reg ?_
   iterate 4 refine v_op hT hC rfl rfl rfl rfl trivial ?_
   obtain ⟨hq, h⟩ := req_some h
   refine v_op hT hC rfl rfl rfl rfl hq ?_
   iterate 2 refine v_op hT hC rfl rfl rfl rfl trivial ?_
   refine Vc.nil ?_
   refine s_reg ?_
   iterate 4 refine v_op hT hC rfl rfl rfl rfl trivial ?_
   obtain ⟨hq, h⟩ := req_some h
   refine v_op hT hC rfl rfl rfl rfl hq ?_
   iterate 2 refine v_op hT hC rfl rfl rfl rfl trivial ?_
   refine Vc.nil ?_
   refine s_reg ?_
   iterate 4 refine v_op hT hC rfl rfl rfl rfl trivial ?_
   obtain ⟨hq, h⟩ := req_some h
   refine v_op hT hC rfl rfl rfl rfl hq ?_
   iterate 2 refine v_op hT hC rfl rfl rfl rfl trivial ?_
   refine Vc.nil ?_
   refine s_reg ?_
   iterate 4 refine v_op hT hC rfl rfl rfl rfl trivial ?_
   refine Vc.nil ?_
   refine s_reg ?_
   iterate 4 refine v_op hT hC rfl rfl rfl rfl trivial ?_
   refine Vc.nil ?_
   refine s_reg ?_
   refine v_op hT hC rfl rfl rfl rfl trivial ?_
   obtain ⟨q9, hq, h⟩ := bnd_some h
   refine v_call hC [] rfl rfl rfl rfl Tryz.call143 (spec_l09Down_ac hq) rfl (by decide) trivial rfl (.inl rfl) rfl ?_
   iterate 3 refine v_op hT hC rfl rfl rfl rfl trivial ?_
   refine Vc.nil ?_
   refine s_reg ?_
   iterate 2 refine v_op hT hC rfl rfl rfl rfl trivial ?_
   obtain ⟨q10, hq, h⟩ := bnd_some h
   refine v_call hC [] rfl rfl rfl rfl Tryz.call143 (spec_l09Down_ac hq) rfl (by decide) trivial rfl (.inl rfl) rfl ?_
   iterate 2 refine v_op hT hC rfl rfl rfl rfl trivial ?_
   refine Vc.nil ?_
   refine aw_region ?_
   iterate 14 refine v_op hT hC rfl rfl rfl rfl trivial ?_
   obtain ⟨hq, h⟩ := req_some h
   refine v_op hT hC rfl rfl rfl rfl ⟨trivial, hq⟩ ?_
   refine v_op hT hC rfl rfl rfl rfl trivial ?_
   refine Vc.nil ?_
   refine b_norm ?_
   refine t_norm ?_
   refine aw_region ?_
   iterate 3 refine v_op hT hC rfl rfl rfl rfl trivial ?_
   refine Vc.nil ?_
   injection h with h
   subst h
   refine r_go ?_
   try dsimp only
   apply w_conv hC [(208, 1104)]
   ·
    exact co
   ·
    rfl
   ·
    decide
   ·
    rfl
  ·
   refine s_false rfl hb3 ?_
   refine aw_exit ?_
   refine t_exit ?_
   injection h with h
   subst h
   refine r_exit ?_
   refine o_out ?_
   apply w_conv hC []
   ·
    exact co
   ·
    rfl
   ·
    decide
   ·
    rfl
 refine t_norm ?_
 refine s_reg ?_
 iterate 2 refine v_op hT hC rfl rfl rfl rfl trivial ?_
 refine Vc.nil ?_
 refine aw_ret ?_
 injection h with h
 subst h
 refine ends (τ := ⟨[(2, .own 16)], [(16, some (.ints .i64 v8))]⟩) ?_ rfl ⟨rfl, trivial⟩
 apply w_conv hC [(16, 208)]
 ·
  exact co
 ·
  rfl
 ·
  decide
 ·
  rfl
def spec_FourBack_res (r : (List Int)) : AV := .own 16
def spec_FourBack_obs (r : (List Int)) : Objs := [(16, .ints .i64 r)]
theorem spec_FourBack_ac {p0 : (List Int)} {r : (List Int)} (h : spec_FourBack p0 = some r) : AC Tryz.prog 131 [.sv (.ints .i64 p0)] [] (spec_FourBack_res r) (spec_FourBack_obs r) := by
 refine ac_of_body hT Tryz.func131 rfl fun C hC => ?_
 unfold spec_FourBack at h
 refine s_reg ?_
 refine v_op hT hC rfl rfl rfl rfl trivial ?_
 refine Vc.nil ?_
 refine s_in ?_
 refine s_reg ?_
 refine v_op hT hC rfl rfl rfl rfl trivial ?_
 obtain ⟨q1, hq, h⟩ := bnd_some h
 refine v_call hC [] rfl rfl rfl rfl Tryz.call118 (spec_l09All_ac hq) rfl (by decide) trivial rfl (.inl rfl) rfl ?_
 refine v_op hT hC rfl rfl rfl rfl trivial ?_
 refine Vc.nil ?_
 rcases sel_some h with ⟨hb1, h⟩ | ⟨hb1, h⟩
 ·
  refine s_true rfl hb1 ?_
  refine s_reg ?_
  iterate 2 refine v_op hT hC rfl rfl rfl rfl trivial ?_
  refine Vc.nil ?_
  refine aw_ret ?_
  refine t_ret ?_
  injection h with h
  subst h
  refine ends (τ := ⟨[(2, .own 16)], [(16, some (.ints .i64 ([] : List Int)))]⟩) ?_ rfl ⟨rfl, trivial⟩
  apply w_conv hC [(16, 128)]
  ·
   exact co
  ·
   rfl
  ·
   decide
  ·
   rfl
 ·
  refine s_false rfl hb1 ?_
  refine aw_skip ?_
  refine t_norm ?_
  refine s_reg ?_
  refine v_op hT hC rfl rfl rfl rfl trivial ?_
  obtain ⟨q2, hq, h⟩ := bnd_some h
  refine v_call hC [(16, 160)] rfl rfl rfl rfl Tryz.call145 (spec_l09Backs_ac hq) rfl (by decide) trivial rfl (.inl rfl) rfl ?_
  obtain ⟨q3, hq, h⟩ := bnd_some h
  refine v_call hC [(16, 176)] rfl rfl rfl rfl Tryz.call140 (spec_l09Flip_ac hq) rfl (by decide) trivial rfl (.inr ⟨rfl, ⟨trivial, trivial⟩⟩) rfl ?_
  obtain ⟨q4, hq, h⟩ := bnd_some h
  refine v_call hC [(16, 192)] rfl rfl rfl rfl Tryz.call145 (spec_l09Backs_ac hq) rfl (by decide) trivial rfl (.inr ⟨rfl, ⟨trivial, trivial⟩⟩) rfl ?_
  obtain ⟨q5, hq, h⟩ := bnd_some h
  refine v_call hC [(16, 208)] rfl rfl rfl rfl Tryz.call140 (spec_l09Flip_ac hq) rfl (by decide) trivial rfl (.inr ⟨rfl, ⟨trivial, trivial⟩⟩) rfl ?_
  refine v_op hT hC rfl rfl rfl rfl trivial ?_
  refine Vc.nil ?_
  refine s_in ?_
  refine s_reg ?_
  refine v_op hT hC rfl rfl rfl rfl trivial ?_
  refine Vc.nil ?_
  refine live [3, 4] [208] (s' := [_, _]) (o' := [_]) rfl rfl ?_
  obtain ⟨v11, hl, h⟩ := bnd_some h
  refine s_loop (fun v8 => ([(4, .sv (.int .i64 v8.1))], [(208, some (.ints .i64 v8.2))])) (fun v11 => ([(4, .any)], [(208, some (.ints .i64 v11))])) hl ?_ ?_ ?_
  ·
   try dsimp only
   apply w_conv hC []
   ·
    exact co
   ·
    rfl
   ·
    decide
   ·
    rfl
  ·
   intro v8 s hs
   have h := hs
   unfold spec_FourBack_l2 at h
   refine s_in ?_
   refine s_reg ?_
   iterate 2 refine v_op hT hC rfl rfl rfl rfl trivial ?_
   refine Vc.nil ?_
   rcases sel_some h with ⟨hb4, h⟩ | ⟨hb4, h⟩
   ·
    refine s_true rfl hb4 ?_
    refine aw_skip ?_
    refine t_norm ?_
    refine s_in ?_
    refine s_block ?_
    refine aw_region ?_
    iterate 4 refine v_op hT hC rfl rfl rfl rfl trivial ?_
    obtain ⟨hq, h⟩ := req_some h
    refine v_op hT hC rfl rfl rfl rfl hq ?_
    obtain ⟨hq, h⟩ := req_some h
    refine v_op hT hC rfl rfl rfl rfl hq ?_
    refine v_op hT hC rfl rfl rfl rfl trivial ?_
    obtain ⟨q12, hq, h⟩ := bnd_some h
    refine v_call hC [] rfl rfl rfl rfl Tryz.call143 (spec_l09Down_ac hq) rfl (by decide) trivial rfl (.inl rfl) rfl ?_
    obtain ⟨hq, h⟩ := req_some h
    refine v_op hT hC rfl rfl rfl rfl hq ?_
    obtain ⟨hq, h⟩ := req_some h
    refine v_op hT hC rfl rfl rfl rfl hq ?_
    refine Vc.nil ?_
    refine b_norm ?_
    refine t_norm ?_
    refine aw_region ?_
    iterate 3 refine v_op hT hC rfl rfl rfl rfl trivial ?_
    refine Vc.nil ?_
    injection h with h
    subst h
    refine r_go ?_
    try dsimp only
    apply w_conv hC []
    ·
     exact co
    ·
     rfl
    ·
     decide
    ·
     rfl
   ·
    refine s_false rfl hb4 ?_
    refine aw_exit ?_
    refine t_exit ?_
    injection h with h
    subst h
    refine r_exit ?_
    refine o_out ?_
    apply w_conv hC []
    ·
     exact co
    ·
     rfl
    ·
     decide
    ·
     rfl
  refine t_norm ?_
  refine s_reg ?_
  iterate 2 refine v_op hT hC rfl rfl rfl rfl trivial ?_
  refine Vc.nil ?_
  refine aw_ret ?_
  injection h with h
  subst h
  refine ends (τ := ⟨[(2, .own 16)], [(16, some (.ints .i64 v11))]⟩) ?_ rfl ⟨rfl, trivial⟩
  apply w_conv hC [(16, 208)]
  ·
   exact co
  ·
   rfl
  ·
   decide
  ·
   rfl
def spec_LevelsBack_res (r : ((List Int) × Bool)) : AV := .tup [.own 16, .sv (.bool r.2)]
def spec_LevelsBack_obs (r : ((List Int) × Bool)) : Objs := [(16, .ints .i64 r.1)]
theorem spec_LevelsBack_ac {p0 : (List Int)} {p1 : Cond} {r : ((List Int) × Bool)} (h : spec_LevelsBack p0 p1 = some r) : AC Tryz.prog 111 [.sv (.ints .i64 p0), .agg [.sv (.bool p1.Key), .sv (.int .i64 p1.Qp), .sv (.bool p1.Large), .sv (.bool p1.Exact)]] [] (spec_LevelsBack_res r) (spec_LevelsBack_obs r) := by
 refine ac_of_body hT Tryz.func111 rfl fun C hC => ?_
 unfold spec_LevelsBack at h
 refine s_reg ?_
 iterate 3 refine v_op hT hC rfl rfl rfl rfl trivial ?_
 refine Vc.nil ?_
 refine s_in ?_
 refine live [0, 3] [48] (s' := [_, _]) (o' := [_]) rfl rfl ?_
 obtain ⟨v1, h1, h⟩ := bnd_some h
 refine aw_to ([(23, .sv (.bool v1))], []) ?_ ?_
 ·
  have h := h1
  refine aw_region ?_
  refine v_op hT hC rfl rfl rfl rfl trivial ?_
  obtain ⟨q2, hq, h⟩ := bnd_some h
  refine v_call hC [] rfl rfl rfl rfl Tryz.call75 (spec_CondOk_ac hq) rfl (by decide) trivial rfl (.inl rfl) rfl ?_
  iterate 2 refine v_op hT hC rfl rfl rfl rfl trivial ?_
  rcases sel_some h with ⟨hb1, h⟩ | ⟨hb1, h⟩
  ·
   refine v_on hT hC rfl rfl rfl rfl (congrArg Bool.not hb1) rfl rfl rfl trivial ?_
   obtain ⟨q3, hq, h⟩ := bnd_some h
   refine v_call_on hC [] rfl rfl rfl rfl (congrArg Bool.not hb1) rfl rfl rfl Tryz.call118 (spec_l09All_ac hq) rfl (by decide) trivial rfl (.inl rfl) rfl ?_
   refine v_on hT hC rfl rfl rfl rfl (congrArg Bool.not hb1) rfl rfl rfl trivial ?_
   refine v_pick hC rfl rfl rfl (b := false) (congrArg Bool.not hb1) rfl rfl rfl trivial ?_
   refine Vc.nil ?_
   injection h with h
   subst h
   refine m_norm ?_
   apply w_conv hC []
   ·
    exact co
   ·
    rfl
   ·
    decide
   ·
    rfl
  ·
   refine v_off hC rfl rfl rfl rfl (congrArg Bool.not hb1) rfl rfl ?_
   refine v_off hC rfl rfl rfl rfl (congrArg Bool.not hb1) rfl rfl ?_
   refine v_off hC rfl rfl rfl rfl (congrArg Bool.not hb1) rfl rfl ?_
   refine v_pick hC rfl rfl rfl (b := true) (congrArg Bool.not hb1) rfl rfl rfl trivial ?_
   refine Vc.nil ?_
   injection h with h
   subst h
   refine m_norm ?_
   apply w_conv hC []
   ·
    exact co
   ·
    rfl
   ·
    decide
   ·
    rfl
 rcases sel_some h with ⟨hb2, h⟩ | ⟨hb2, h⟩
 ·
  refine s_true rfl hb2 ?_
  refine s_reg ?_
  iterate 3 refine v_op hT hC rfl rfl rfl rfl trivial ?_
  refine Vc.nil ?_
  refine aw_ret ?_
  refine t_ret ?_
  injection h with h
  subst h
  refine ends (τ := ⟨[(4, .own 16), (5, .sv (.bool false))], [(16, some (.ints .i64 ([] : List Int)))]⟩) ?_ rfl ⟨rfl, trivial⟩
  apply w_conv hC [(16, 384)]
  ·
   exact co
  ·
   rfl
  ·
   decide
  ·
   rfl
 ·
  refine s_false rfl hb2 ?_
  refine aw_skip ?_
  refine t_norm ?_
  refine s_in ?_
  refine s_reg ?_
  iterate 2 refine v_op hT hC rfl rfl rfl rfl trivial ?_
  refine Vc.nil ?_
  rcases sel_some h with ⟨hb3, h⟩ | ⟨hb3, h⟩
  ·
   refine s_true rfl hb3 ?_
   refine s_reg ?_
   refine v_op hT hC rfl rfl rfl rfl trivial ?_
   obtain ⟨q4, hq, h⟩ := bnd_some h
   refine v_call hC [(16, 448)] rfl rfl rfl rfl Tryz.call127 (spec_Unscanned_ac hq) rfl (by decide) trivial rfl (.inl rfl) rfl ?_
   iterate 4 refine v_op hT hC rfl rfl rfl rfl trivial ?_
   refine Vc.nil ?_
   refine aw_ret ?_
   refine t_ret ?_
   injection h with h
   subst h
   refine ends (τ := ⟨[(4, .own 16), (5, .sv (.bool q4.2))], [(16, some (.ints .i64 q4.1))]⟩) ?_ rfl ⟨rfl, trivial⟩
   apply w_conv hC [(16, 448)]
   ·
    exact co
   ·
    rfl
   ·
    decide
   ·
    rfl
  ·
   refine s_false rfl hb3 ?_
   refine aw_skip ?_
   refine t_norm ?_
   refine s_in ?_
   refine s_reg ?_
   iterate 2 refine v_op hT hC rfl rfl rfl rfl trivial ?_
   refine Vc.nil ?_
   rcases sel_some h with ⟨hb4, h⟩ | ⟨hb4, h⟩
   ·
    refine s_true rfl hb4 ?_
    refine s_reg ?_
    refine v_op hT hC rfl rfl rfl rfl trivial ?_
    obtain ⟨q5, hq, h⟩ := bnd_some h
    refine v_call hC [(16, 560)] rfl rfl rfl rfl Tryz.call127 (spec_Unscanned_ac hq) rfl (by decide) trivial rfl (.inl rfl) rfl ?_
    iterate 5 refine v_op hT hC rfl rfl rfl rfl trivial ?_
    refine Vc.nil ?_
    refine s_in ?_
    refine s_reg ?_
    refine v_op hT hC rfl rfl rfl rfl trivial ?_
    refine Vc.nil ?_
    refine live [3, 6, 8] [48, 560] (s' := [_, _, _]) (o' := [_, _]) rfl rfl ?_
    obtain ⟨v11, hl, h⟩ := bnd_some h
    refine s_loop (fun v8 => ([(8, .sv (.int .i64 v8.1))], [(560, some (.ints .i64 v8.2))])) (fun v11 => ([(3, .any), (8, .any)], [(560, some (.ints .i64 v11)), (48, none)])) hl ?_ ?_ ?_
    ·
     try dsimp only
     apply w_conv hC []
     ·
      exact co
     ·
      rfl
     ·
      decide
     ·
      rfl
    ·
     intro v8 s hs
     have h := hs
     unfold spec_LevelsBack_l4 at h
     refine s_in ?_
     refine s_reg ?_
     iterate 2 refine v_op hT hC rfl rfl rfl rfl trivial ?_
     refine Vc.nil ?_
     rcases sel_some h with ⟨hb7, h⟩ | ⟨hb7, h⟩
     ·
      refine s_true rfl hb7 ?_
      refine aw_skip ?_
      refine t_norm ?_
      refine s_in ?_
      refine s_block ?_
      refine aw_draw hm ?_
      iterate 4 refine v_op hT hC rfl rfl rfl rfl trivial ?_
      obtain ⟨hq, h⟩ := req_some h
      refine v_op hT hC rfl rfl rfl rfl hq ?_
      obtain ⟨hq, h⟩ := req_some h
      refine v_op hT hC rfl rfl rfl rfl hq ?_
      iterate 2 refine v_op hT hC rfl rfl rfl rfl trivial ?_
      obtain ⟨q12, hq, h⟩ := bnd_some h
      refine v_call hC [] rfl rfl rfl rfl Tryz.call128 (spec_LargeBack_ac hq) rfl (by decide) trivial rfl (.inl rfl) rfl ?_
      obtain ⟨hq, h⟩ := req_some h
      refine v_op hT hC rfl rfl rfl rfl hq ?_
      obtain ⟨hq, h⟩ := req_some h
      refine v_op hT hC rfl rfl rfl rfl hq ?_
      refine Vc.nil ⟨by kernel_rfl, ?_⟩
      refine b_norm ?_
      refine t_norm ?_
      refine aw_region ?_
      iterate 3 refine v_op hT hC rfl rfl rfl rfl trivial ?_
      refine Vc.nil ?_
      injection h with h
      subst h
      refine r_go ?_
      try dsimp only
      apply w_conv hC []
      ·
       exact co
      ·
       rfl
      ·
       decide
      ·
       rfl
     ·
      refine s_false rfl hb7 ?_
      refine aw_exit ?_
      refine t_exit ?_
      injection h with h
      subst h
      refine r_exit ?_
      refine o_out ?_
      apply w_conv hC []
      ·
       exact co
      ·
       rfl
      ·
       decide
      ·
       rfl
    refine t_norm ?_
    refine s_reg ?_
    refine v_op hT hC rfl rfl rfl rfl trivial ?_
    obtain ⟨q14, hq, h⟩ := bnd_some h
    refine v_call hC [(16, 848)] rfl rfl rfl rfl Tryz.call129 (spec_EightBack_ac hq) rfl (by decide) trivial rfl (.inr ⟨rfl, ⟨trivial, trivial⟩⟩) rfl ?_
    iterate 2 refine v_op hT hC rfl rfl rfl rfl trivial ?_
    refine Vc.nil ?_
    refine aw_ret ?_
    refine t_ret ?_
    injection h with h
    subst h
    refine ends (τ := ⟨[(4, .own 16), (5, .sv (.bool true))], [(16, some (.ints .i64 q14))]⟩) ?_ rfl ⟨rfl, trivial⟩
    apply w_conv hC [(16, 848)]
    ·
     exact co
    ·
     rfl
    ·
     decide
    ·
     rfl
   ·
    refine s_false rfl hb4 ?_
    refine aw_skip ?_
    refine t_norm ?_
    refine s_reg ?_
    obtain ⟨hq, h⟩ := req_some h
    refine v_op hT hC rfl rfl rfl rfl ⟨hq.1, hq.2.1, hq.2.2, by decide⟩ ?_
    refine v_op hT hC rfl rfl rfl rfl trivial ?_
    refine Vc.nil ?_
    refine s_in ?_
    refine s_reg ?_
    refine v_op hT hC rfl rfl rfl rfl trivial ?_
    refine Vc.nil ?_
    refine live [0, 3, 9, 10] [48, 864] (s' := [_, _, _, _]) (o' := [_, _]) rfl rfl ?_
    obtain ⟨v48, hl, h⟩ := bnd_some h
    refine s_loop (fun v31 => ([(10, .sv (.int .i64 v31.1))], [(864, some (.ints .i64 v31.2))])) (fun v48 => ([(0, .any), (3, .any), (10, .any)], [(864, some (.ints .i64 v48)), (48, none)])) hl ?_ ?_ ?_
    ·
     try dsimp only
     apply w_conv hC []
     ·
      exact co
     ·
      rfl
     ·
      decide
     ·
      rfl
    ·
     intro v31 s hs
     have h := hs
     unfold spec_LevelsBack_l36 at h
     refine s_in ?_
     refine s_reg ?_
     iterate 2 refine v_op hT hC rfl rfl rfl rfl trivial ?_
     refine Vc.nil ?_
     rcases sel_some h with ⟨hb22, h⟩ | ⟨hb22, h⟩
     ·
      refine s_true rfl hb22 ?_
      refine aw_skip ?_
      refine t_norm ?_
      refine s_in ?_
      refine s_block ?_
      refine s_reg ?_
      iterate 6 refine v_op hT hC rfl rfl rfl rfl trivial ?_
      obtain ⟨hq, h⟩ := req_some h
      refine v_op hT hC rfl rfl rfl rfl hq ?_
      obtain ⟨q49, hq, h⟩ := bnd_some h
      refine v_call hC [(16, 1072)] rfl rfl rfl rfl Tryz.call127 (spec_Unscanned_ac hq) rfl (by decide) trivial rfl (.inl rfl) rfl ?_
      iterate 5 refine v_op hT hC rfl rfl rfl rfl trivial ?_
      refine Vc.nil ?_
      refine s_in ?_
      refine s_reg ?_
      refine v_op hT hC rfl rfl rfl rfl trivial ?_
      refine Vc.nil ?_
      refine live [0, 3, 9, 10, 11, 13] [48, 864, 1072] (s' := [_, _, _, _, _, _]) (o' := [_, _, _]) rfl rfl ?_
      obtain ⟨v55, hl, h⟩ := bnd_some h
      refine s_loop (fun v52 => ([(13, .sv (.int .i64 v52.1))], [(1072, some (.ints .i64 v52.2))])) (fun v55 => ([(13, .any)], [(1072, some (.ints .i64 v55))])) hl ?_ ?_ ?_
      ·
       try dsimp only
       apply w_conv hC []
       ·
        exact co
       ·
        rfl
       ·
        decide
       ·
        rfl
      ·
       intro v52 s hs
       have h := hs
       unfold spec_LevelsBack_l41 at h
       refine s_in ?_
       refine s_reg ?_
       iterate 2 refine v_op hT hC rfl rfl rfl rfl trivial ?_
       refine Vc.nil ?_
       rcases sel_some h with ⟨hb25, h⟩ | ⟨hb25, h⟩
       ·
        refine s_true rfl hb25 ?_
        refine aw_skip ?_
        refine t_norm ?_
        refine s_in ?_
        refine s_block ?_
        refine aw_draw hm ?_
        iterate 4 refine v_op hT hC rfl rfl rfl rfl trivial ?_
        obtain ⟨hq, h⟩ := req_some h
        refine v_op hT hC rfl rfl rfl rfl hq ?_
        obtain ⟨hq, h⟩ := req_some h
        refine v_op hT hC rfl rfl rfl rfl hq ?_
        iterate 3 refine v_op hT hC rfl rfl rfl rfl trivial ?_
        obtain ⟨q56, hq, h⟩ := bnd_some h
        refine v_call hC [] rfl rfl rfl rfl Tryz.call130 (spec_SmallBack_ac hq) rfl (by decide) trivial rfl (.inl rfl) rfl ?_
        obtain ⟨hq, h⟩ := req_some h
        refine v_op hT hC rfl rfl rfl rfl hq ?_
        obtain ⟨hq, h⟩ := req_some h
        refine v_op hT hC rfl rfl rfl rfl hq ?_
        refine Vc.nil ⟨by kernel_rfl, ?_⟩
        refine b_norm ?_
        refine t_norm ?_
        refine aw_region ?_
        iterate 3 refine v_op hT hC rfl rfl rfl rfl trivial ?_
        refine Vc.nil ?_
        injection h with h
        subst h
        refine r_go ?_
        try dsimp only
        apply w_conv hC []
        ·
         exact co
        ·
         rfl
        ·
         decide
        ·
         rfl
       ·
        refine s_false rfl hb25 ?_
        refine aw_exit ?_
        refine t_exit ?_
        injection h with h
        subst h
        refine r_exit ?_
        refine o_out ?_
        apply w_conv hC []
        ·
         exact co
        ·
         rfl
        ·
         decide
        ·
         rfl
      refine t_norm ?_
      refine s_reg ?_
      refine v_op hT hC rfl rfl rfl rfl trivial ?_
      obtain ⟨q58, hq, h⟩ := bnd_some h
      refine v_call hC [(16, 1376)] rfl rfl rfl rfl Tryz.call131 (spec_FourBack_ac hq) rfl (by decide) trivial rfl (.inr ⟨rfl, ⟨trivial, trivial⟩⟩) rfl ?_
      refine v_op hT hC rfl rfl rfl rfl trivial ?_
      refine Vc.nil ?_
      refine s_reg ?_
      refine v_op hT hC rfl rfl rfl rfl trivial ?_
      refine Vc.nil ?_
      refine live [0, 3, 9, 10, 14, 15] [48, 864, 1376] (s' := [_, _, _, _, _, _]) (o' := [_, _, _]) rfl rfl ?_
      obtain ⟨v62, hl, h⟩ := bnd_some h
      refine s_loop (fun v60 => ([(15, .sv (.int .i64 v60.1))], [(864, some (.ints .i64 v60.2))])) (fun v62 => ([(14, .any), (15, .any)], [(864, some (.ints .i64 v62)), (1376, none)])) hl ?_ ?_ ?_
      ·
       try dsimp only
       apply w_conv hC []
       ·
        exact co
       ·
        rfl
       ·
        decide
       ·
        rfl
      ·
       intro v60 s hs
       have h := hs
       unfold spec_LevelsBack_l42 at h
       refine s_in ?_
       refine s_reg ?_
       iterate 2 refine v_op hT hC rfl rfl rfl rfl trivial ?_
       refine Vc.nil ?_
       rcases sel_some h with ⟨hb28, h⟩ | ⟨hb28, h⟩
       ·
        refine s_true rfl hb28 ?_
        refine aw_skip ?_
        refine t_norm ?_
        refine s_in ?_
        refine s_block ?_
        refine aw_region ?_
        iterate 2 refine v_op hT hC rfl rfl rfl rfl trivial ?_
        obtain ⟨hq, h⟩ := req_some h
        refine v_op hT hC rfl rfl rfl rfl hq ?_
        iterate 2 refine v_op hT hC rfl rfl rfl rfl trivial ?_
        obtain ⟨hq, h⟩ := req_some h
        refine v_op hT hC rfl rfl rfl rfl hq ?_
        iterate 3 refine v_op hT hC rfl rfl rfl rfl trivial ?_
        obtain ⟨hq, h⟩ := req_some h
        refine v_op hT hC rfl rfl rfl rfl hq ?_
        iterate 3 refine v_op hT hC rfl rfl rfl rfl trivial ?_
        obtain ⟨hq, h⟩ := req_some h
        refine v_op hT hC rfl rfl rfl rfl hq ?_
        iterate 3 refine v_op hT hC rfl rfl rfl rfl trivial ?_
        obtain ⟨hq, h⟩ := req_some h
        refine v_op hT hC rfl rfl rfl rfl hq ?_
        obtain ⟨hq, h⟩ := req_some h
        refine v_op hT hC rfl rfl rfl rfl hq ?_
        obtain ⟨hq, h⟩ := req_some h
        refine v_op hT hC rfl rfl rfl rfl hq ?_
        obtain ⟨hq, h⟩ := req_some h
        refine v_op hT hC rfl rfl rfl rfl hq ?_
        refine Vc.nil ?_
        refine b_norm ?_
        refine t_norm ?_
        refine aw_region ?_
        iterate 3 refine v_op hT hC rfl rfl rfl rfl trivial ?_
        refine Vc.nil ?_
        injection h with h
        subst h
        refine r_go ?_
        try dsimp only
        apply w_conv hC []
        ·
         exact co
        ·
         rfl
        ·
         decide
        ·
         rfl
       ·
        refine s_false rfl hb28 ?_
        refine aw_exit ?_
        refine t_exit ?_
        injection h with h
        subst h
        refine r_exit ?_
        refine o_out ?_
        apply w_conv hC []
        ·
         exact co
        ·
         rfl
        ·
         decide
        ·
         rfl
      refine b_norm ?_
      refine t_norm ?_
      refine aw_region ?_
      iterate 3 refine v_op hT hC rfl rfl rfl rfl trivial ?_
      refine Vc.nil ?_
      injection h with h
      subst h
      refine r_go ?_
      try dsimp only
      apply w_conv hC []
      ·
       exact co
      ·
       rfl
      ·
       decide
      ·
       rfl
     ·
      refine s_false rfl hb22 ?_
      refine aw_exit ?_
      refine t_exit ?_
      injection h with h
      subst h
      refine r_exit ?_
      refine o_out ?_
      apply w_conv hC []
      ·
       exact co
      ·
       rfl
      ·
       decide
      ·
       rfl
    refine t_norm ?_
    refine s_reg ?_
    iterate 3 refine v_op hT hC rfl rfl rfl rfl trivial ?_
    refine Vc.nil ?_
    refine aw_ret ?_
    injection h with h
    subst h
    refine ends (τ := ⟨[(4, .own 16), (5, .sv (.bool true))], [(16, some (.ints .i64 v48))]⟩) ?_ rfl ⟨rfl, trivial⟩
    apply w_conv hC [(16, 864)]
    ·
     exact co
    ·
     rfl
    ·
     decide
    ·
     rfl
def spec_Joined_res (r : (List Int)) : AV := .own 16
def spec_Joined_obs (r : (List Int)) : Objs := [(16, .ints .i64 r)]
theorem spec_Joined_ac {p0 : (List Int)} {p1 : (List Int)} {r : (List Int)} (h : spec_Joined p0 p1 = some r) : AC Tryz.prog 112 [.sv (.ints .i64 p0), .sv (.ints .i64 p1)] [] (spec_Joined_res r) (spec_Joined_obs r) := by
 refine ac_of_body hT Tryz.func112 rfl fun C hC => ?_
 unfold spec_Joined at h
 refine s_reg ?_
 refine v_op hT hC rfl rfl rfl rfl trivial ?_
 refine Vc.nil ?_
 refine s_reg ?_
 iterate 2 refine v_op hT hC rfl rfl rfl rfl trivial ?_
 refine Vc.nil ?_
 refine s_in ?_
 refine live [0, 1, 5] [112] (s' := [_, _, _]) (o' := [_]) rfl rfl ?_
 obtain ⟨v1, h1, h⟩ := bnd_some h
 refine aw_to ([(15, .sv (.bool v1))], []) ?_ ?_
 ·
  have h := h1
  refine aw_region ?_
  refine v_op hT hC rfl rfl rfl rfl trivial ?_
  obtain ⟨q2, hq, h⟩ := bnd_some h
  refine v_call hC [] rfl rfl rfl rfl Tryz.call94 (spec_l13Dots_ac hq) rfl (by decide) trivial rfl (.inl rfl) rfl ?_
  iterate 2 refine v_op hT hC rfl rfl rfl rfl trivial ?_
  rcases sel_some h with ⟨hb1, h⟩ | ⟨hb1, h⟩
  ·
   refine v_on hT hC rfl rfl rfl rfl (congrArg Bool.not hb1) rfl rfl rfl trivial ?_
   obtain ⟨q3, hq, h⟩ := bnd_some h
   refine v_call_on hC [] rfl rfl rfl rfl (congrArg Bool.not hb1) rfl rfl rfl Tryz.call118 (spec_l09All_ac hq) rfl (by decide) trivial rfl (.inl rfl) rfl ?_
   refine v_on hT hC rfl rfl rfl rfl (congrArg Bool.not hb1) rfl rfl rfl trivial ?_
   refine v_pick hC rfl rfl rfl (b := false) (congrArg Bool.not hb1) rfl rfl rfl trivial ?_
   refine Vc.nil ?_
   injection h with h
   subst h
   refine m_norm ?_
   apply w_conv hC []
   ·
    exact co
   ·
    rfl
   ·
    decide
   ·
    rfl
  ·
   refine v_off hC rfl rfl rfl rfl (congrArg Bool.not hb1) rfl rfl ?_
   refine v_off hC rfl rfl rfl rfl (congrArg Bool.not hb1) rfl rfl ?_
   refine v_off hC rfl rfl rfl rfl (congrArg Bool.not hb1) rfl rfl ?_
   refine v_pick hC rfl rfl rfl (b := true) (congrArg Bool.not hb1) rfl rfl rfl trivial ?_
   refine Vc.nil ?_
   injection h with h
   subst h
   refine m_norm ?_
   apply w_conv hC []
   ·
    exact co
   ·
    rfl
   ·
    decide
   ·
    rfl
 rcases sel_some h with ⟨hb2, h⟩ | ⟨hb2, h⟩
 ·
  refine s_true rfl hb2 ?_
  refine s_reg ?_
  iterate 2 refine v_op hT hC rfl rfl rfl rfl trivial ?_
  refine Vc.nil ?_
  refine aw_ret ?_
  refine t_ret ?_
  injection h with h
  subst h
  refine ends (τ := ⟨[(4, .own 16)], [(16, some (.ints .i64 ([] : List Int)))]⟩) ?_ rfl ⟨rfl, trivial⟩
  apply w_conv hC [(16, 112)]
  ·
   exact co
  ·
   rfl
  ·
   decide
  ·
   rfl
 ·
  refine s_false rfl hb2 ?_
  refine aw_skip ?_
  refine t_norm ?_
  refine s_in ?_
  refine s_reg ?_
  refine v_op hT hC rfl rfl rfl rfl trivial ?_
  refine Vc.nil ?_
  refine live [0, 1, 5, 6] [112] (s' := [_, _, _, _]) (o' := [_]) rfl rfl ?_
  obtain ⟨v9, hl, h⟩ := bnd_some h
  refine s_loop (fun v6 => ([(6, .sv (.int .i64 v6.1))], [(112, some (.ints .i64 v6.2))])) (fun v9 => ([(0, .any), (1, .any), (6, .any)], [(112, some (.ints .i64 v9))])) hl ?_ ?_ ?_
  ·
   try dsimp only
   apply w_conv hC []
   ·
    exact co
   ·
    rfl
   ·
    decide
   ·
    rfl
  ·
   intro v6 s hs
   have h := hs
   unfold spec_Joined_l2 at h
   refine s_in ?_
   refine s_reg ?_
   iterate 2 refine v_op hT hC rfl rfl rfl rfl trivial ?_
   refine Vc.nil ?_
   rcases sel_some h with ⟨hb5, h⟩ | ⟨hb5, h⟩
   ·
    refine s_true rfl hb5 ?_
    refine aw_skip ?_
    refine t_norm ?_
    refine s_in ?_
    refine s_block ?_
    refine aw_draw hm ?_
    iterate 3 refine v_op hT hC rfl rfl rfl rfl trivial ?_
    obtain ⟨hq, h⟩ := req_some h
    refine v_op hT hC rfl rfl rfl rfl hq ?_
    iterate 3 refine v_op hT hC rfl rfl rfl rfl trivial ?_
    obtain ⟨hq, h⟩ := req_some h
    refine v_op hT hC rfl rfl rfl rfl hq ?_
    iterate 2 refine v_op hT hC rfl rfl rfl rfl trivial ?_
    obtain ⟨q10, hq, h⟩ := bnd_some h
    refine v_call hC [] rfl rfl rfl rfl Tryz.call50 (spec_Brought_ac hq) rfl (by decide) trivial rfl (.inl rfl) rfl ?_
    refine v_op hT hC rfl rfl rfl rfl trivial ?_
    obtain ⟨hq, h⟩ := req_some h
    refine v_op hT hC rfl rfl rfl rfl ⟨trivial, hq⟩ ?_
    refine v_op hT hC rfl rfl rfl rfl trivial ?_
    refine Vc.nil ⟨by kernel_rfl, ?_⟩
    refine b_norm ?_
    refine t_norm ?_
    refine aw_region ?_
    iterate 3 refine v_op hT hC rfl rfl rfl rfl trivial ?_
    refine Vc.nil ?_
    injection h with h
    subst h
    refine r_go ?_
    try dsimp only
    apply w_conv hC [(112, 528)]
    ·
     exact co
    ·
     rfl
    ·
     decide
    ·
     rfl
   ·
    refine s_false rfl hb5 ?_
    refine aw_exit ?_
    refine t_exit ?_
    injection h with h
    subst h
    refine r_exit ?_
    refine o_out ?_
    apply w_conv hC []
    ·
     exact co
    ·
     rfl
    ·
     decide
    ·
     rfl
  refine t_norm ?_
  refine s_reg ?_
  iterate 2 refine v_op hT hC rfl rfl rfl rfl trivial ?_
  refine Vc.nil ?_
  refine aw_ret ?_
  injection h with h
  subst h
  refine ends (τ := ⟨[(4, .own 16)], [(16, some (.ints .i64 v9))]⟩) ?_ rfl ⟨rfl, trivial⟩
  apply w_conv hC [(16, 112)]
  ·
   exact co
  ·
   rfl
  ·
   decide
  ·
   rfl
def spec_SquareDots_res (r : ((List Int) × Bool)) : AV := .tup [.own 16, .sv (.bool r.2)]
def spec_SquareDots_obs (r : ((List Int) × Bool)) : Objs := [(16, .ints .i64 r.1)]
theorem spec_SquareDots_ac {p0 : Pic} {p1 : Pic} {p2 : Int} {p3 : Int} {p4 : Cond} {p5 : Int} {p6 : Int} {p7 : Square} {r : ((List Int) × Bool)} (h : spec_SquareDots p0 p1 p2 p3 p4 p5 p6 p7 = some r) : AC Tryz.prog 96 [.agg [.sv (.int .i64 p0.Wide), .sv (.int .i64 p0.High), .sv (.str p0.Dots)], .agg [.sv (.int .i64 p1.Wide), .sv (.int .i64 p1.High), .sv (.str p1.Dots)], .sv (.int .i64 p2), .sv (.int .i64 p3), .agg [.sv (.bool p4.Key), .sv (.int .i64 p4.Qp), .sv (.bool p4.Large), .sv (.bool p4.Exact)], .sv (.int .i64 p5), .sv (.int .i64 p6), .agg [.sv (.int .i64 p7.Kind), .sv (.int .i64 p7.Mode), .sv (.int .i64 p7.Dx), .sv (.int .i64 p7.Dy), .sv (.ints .i64 p7.Levels)]] [] (spec_SquareDots_res r) (spec_SquareDots_obs r) := by
 refine ac_of_body hT Tryz.func96 rfl fun C hC => ?_
 unfold spec_SquareDots at h
 refine s_reg ?_
 iterate 6 refine v_op hT hC rfl rfl rfl rfl trivial ?_
 refine Vc.nil ?_
 refine s_in ?_
 refine live [2, 3, 5, 6, 8, 9, 12, 15] [128, 144, 192, 240] (s' := [_, _, _, _, _, _, _, _]) (o' := [_, _, _, _]) rfl rfl ?_
 obtain ⟨v1, h1, h⟩ := bnd_some h
 refine aw_to ([(49, .sv (.bool v1))], []) ?_ ?_
 ·
  have h := h1
  refine aw_region ?_
  iterate 3 refine v_op hT hC rfl rfl rfl rfl trivial ?_
  obtain ⟨q2, hq, h⟩ := bnd_some h
  refine v_call hC [] rfl rfl rfl rfl Tryz.call93 (spec_l13Fits_ac hq) rfl (by decide) trivial rfl (.inl rfl) rfl ?_
  iterate 2 refine v_op hT hC rfl rfl rfl rfl trivial ?_
  rcases sel_some h with ⟨hb1, h⟩ | ⟨hb1, h⟩
  ·
   refine v_on hT hC rfl rfl rfl rfl (congrArg Bool.not hb1) rfl rfl rfl trivial ?_
   obtain ⟨q3, hq, h⟩ := bnd_some h
   refine v_call_on hC [] rfl rfl rfl rfl (congrArg Bool.not hb1) rfl rfl rfl Tryz.call48 (spec_l01In_ac hq) rfl (by decide) trivial rfl (.inl rfl) rfl ?_
   refine v_on hT hC rfl rfl rfl rfl (congrArg Bool.not hb1) rfl rfl rfl trivial ?_
   refine v_pick hC rfl rfl rfl (b := false) (congrArg Bool.not hb1) rfl rfl rfl trivial ?_
   refine v_op hT hC rfl rfl rfl rfl trivial ?_
   rcases sel_some h with ⟨hb2, h⟩ | ⟨hb2, h⟩
   ·
    refine v_on hT hC rfl rfl rfl rfl (congrArg Bool.not hb2) rfl rfl rfl trivial ?_
    obtain ⟨q4, hq, h⟩ := bnd_some h
    refine v_call_on hC [] rfl rfl rfl rfl (congrArg Bool.not hb2) rfl rfl rfl Tryz.call48 (spec_l01In_ac hq) rfl (by decide) trivial rfl (.inl rfl) rfl ?_
    refine v_on hT hC rfl rfl rfl rfl (congrArg Bool.not hb2) rfl rfl rfl trivial ?_
    refine v_pick hC rfl rfl rfl (b := false) (congrArg Bool.not hb2) rfl rfl rfl trivial ?_
    refine v_op hT hC rfl rfl rfl rfl trivial ?_
    rcases sel_some h with ⟨hb3, h⟩ | ⟨hb3, h⟩
    ·
     refine v_on hT hC rfl rfl rfl rfl (congrArg Bool.not hb3) rfl rfl rfl trivial ?_
     obtain ⟨q5, hq, h⟩ := bnd_some h
     refine v_call_on hC [] rfl rfl rfl rfl (congrArg Bool.not hb3) rfl rfl rfl Tryz.call110 (spec_SquareOk_ac hq) rfl (by decide) trivial rfl (.inl rfl) rfl ?_
     refine v_on hT hC rfl rfl rfl rfl (congrArg Bool.not hb3) rfl rfl rfl trivial ?_
     refine v_pick hC rfl rfl rfl (b := false) (congrArg Bool.not hb3) rfl rfl rfl trivial ?_
     refine v_op hT hC rfl rfl rfl rfl trivial ?_
     rcases sel_some h with ⟨hb4, h⟩ | ⟨hb4, h⟩
     ·
      refine v_on hT hC rfl rfl rfl rfl (congrArg Bool.not hb4) rfl rfl rfl trivial ?_
      obtain ⟨q6, hq, h⟩ := bnd_some h
      refine v_call_on hC [] rfl rfl rfl rfl (congrArg Bool.not hb4) rfl rfl rfl Tryz.call75 (spec_CondOk_ac hq) rfl (by decide) trivial rfl (.inl rfl) rfl ?_
      refine v_on hT hC rfl rfl rfl rfl (congrArg Bool.not hb4) rfl rfl rfl trivial ?_
      refine v_pick hC rfl rfl rfl (b := false) (congrArg Bool.not hb4) rfl rfl rfl trivial ?_
      refine Vc.nil ?_
      injection h with h
      subst h
      refine m_norm ?_
      apply w_conv hC []
      ·
       exact co
      ·
       rfl
      ·
       decide
      ·
       rfl
     ·
      refine v_off hC rfl rfl rfl rfl (congrArg Bool.not hb4) rfl rfl ?_
      refine v_off hC rfl rfl rfl rfl (congrArg Bool.not hb4) rfl rfl ?_
      refine v_off hC rfl rfl rfl rfl (congrArg Bool.not hb4) rfl rfl ?_
      refine v_pick hC rfl rfl rfl (b := true) (congrArg Bool.not hb4) rfl rfl rfl trivial ?_
      refine Vc.nil ?_
      injection h with h
      subst h
      refine m_norm ?_
      apply w_conv hC []
      ·
       exact co
      ·
       rfl
      ·
       decide
      ·
       rfl
    ·
     refine v_off hC rfl rfl rfl rfl (congrArg Bool.not hb3) rfl rfl ?_
     refine v_off hC rfl rfl rfl rfl (congrArg Bool.not hb3) rfl rfl ?_
     refine v_off hC rfl rfl rfl rfl (congrArg Bool.not hb3) rfl rfl ?_
     refine v_pick hC rfl rfl rfl (b := true) (congrArg Bool.not hb3) rfl rfl rfl trivial ?_
     refine v_op hT hC rfl rfl rfl rfl trivial ?_
     refine v_off hC rfl rfl rfl rfl rfl rfl rfl ?_
     refine v_off hC rfl rfl rfl rfl rfl rfl rfl ?_
     refine v_off hC rfl rfl rfl rfl rfl rfl rfl ?_
     refine v_op hT hC rfl rfl rfl rfl trivial ?_
     refine Vc.nil ?_
     injection h with h
     subst h
     refine m_norm ?_
     apply w_conv hC []
     ·
      exact co
     ·
      rfl
     ·
      decide
     ·
      rfl
   ·
    refine v_off hC rfl rfl rfl rfl (congrArg Bool.not hb2) rfl rfl ?_
    refine v_off hC rfl rfl rfl rfl (congrArg Bool.not hb2) rfl rfl ?_
    refine v_off hC rfl rfl rfl rfl (congrArg Bool.not hb2) rfl rfl ?_
    refine v_pick hC rfl rfl rfl (b := true) (congrArg Bool.not hb2) rfl rfl rfl trivial ?_
    refine v_op hT hC rfl rfl rfl rfl trivial ?_
    refine v_off hC rfl rfl rfl rfl rfl rfl rfl ?_
    refine v_off hC rfl rfl rfl rfl rfl rfl rfl ?_
    refine v_off hC rfl rfl rfl rfl rfl rfl rfl ?_
    iterate 2 refine v_op hT hC rfl rfl rfl rfl trivial ?_
    refine v_off hC rfl rfl rfl rfl rfl rfl rfl ?_
    refine v_off hC rfl rfl rfl rfl rfl rfl rfl ?_
    refine v_off hC rfl rfl rfl rfl rfl rfl rfl ?_
    refine v_op hT hC rfl rfl rfl rfl trivial ?_
    refine Vc.nil ?_
    injection h with h
    subst h
    refine m_norm ?_
    apply w_conv hC []
    ·
     exact co
    ·
     rfl
    ·
     decide
    ·
     rfl
  ·
   refine v_off hC rfl rfl rfl rfl (congrArg Bool.not hb1) rfl rfl ?_
   refine v_off hC rfl rfl rfl rfl (congrArg Bool.not hb1) rfl rfl ?_
   refine v_off hC rfl rfl rfl rfl (congrArg Bool.not hb1) rfl rfl ?_
   refine v_pick hC rfl rfl rfl (b := true) (congrArg Bool.not hb1) rfl rfl rfl trivial ?_
   refine v_op hT hC rfl rfl rfl rfl trivial ?_
   refine v_off hC rfl rfl rfl rfl rfl rfl rfl ?_
   refine v_off hC rfl rfl rfl rfl rfl rfl rfl ?_
   refine v_off hC rfl rfl rfl rfl rfl rfl rfl ?_
   iterate 2 refine v_op hT hC rfl rfl rfl rfl trivial ?_
   refine v_off hC rfl rfl rfl rfl rfl rfl rfl ?_
   refine v_off hC rfl rfl rfl rfl rfl rfl rfl ?_
   refine v_off hC rfl rfl rfl rfl rfl rfl rfl ?_
   iterate 2 refine v_op hT hC rfl rfl rfl rfl trivial ?_
   refine v_off hC rfl rfl rfl rfl rfl rfl rfl ?_
   refine v_off hC rfl rfl rfl rfl rfl rfl rfl ?_
   refine v_off hC rfl rfl rfl rfl rfl rfl rfl ?_
   refine v_op hT hC rfl rfl rfl rfl trivial ?_
   refine Vc.nil ?_
   injection h with h
   subst h
   refine m_norm ?_
   apply w_conv hC []
   ·
    exact co
   ·
    rfl
   ·
    decide
   ·
    rfl
 rcases sel_some h with ⟨hb5, h⟩ | ⟨hb5, h⟩
 ·
  refine s_true rfl hb5 ?_
  refine s_reg ?_
  iterate 3 refine v_op hT hC rfl rfl rfl rfl trivial ?_
  refine Vc.nil ?_
  refine aw_ret ?_
  refine t_ret ?_
  injection h with h
  subst h
  refine ends (τ := ⟨[(16, .own 16), (17, .sv (.bool false))], [(16, some (.ints .i64 ([] : List Int)))]⟩) ?_ rfl ⟨rfl, trivial⟩
  apply w_conv hC [(16, 800)]
  ·
   exact co
  ·
   rfl
  ·
   decide
  ·
   rfl
 ·
  refine s_false rfl hb5 ?_
  refine aw_skip ?_
  refine t_norm ?_
  refine s_in ?_
  refine s_reg ?_
  iterate 3 refine v_op hT hC rfl rfl rfl rfl trivial ?_
  refine Vc.nil ?_
  rcases sel_some h with ⟨hb6, h⟩ | ⟨hb6, h⟩
  ·
   refine s_true rfl hb6 ?_
   refine s_reg ?_
   iterate 3 refine v_op hT hC rfl rfl rfl rfl trivial ?_
   obtain ⟨q7, hq, h⟩ := bnd_some h
   refine v_call hC [(16, 928), (17, 929)] rfl rfl rfl rfl Tryz.call105 (spec_EdgesOf_ac hq) rfl (by decide) trivial rfl (.inl rfl) rfl ?_
   iterate 6 refine v_op hT hC rfl rfl rfl rfl trivial ?_
   refine Vc.nil ?_
   refine s_reg ?_
   iterate 3 refine v_op hT hC rfl rfl rfl rfl trivial ?_
   obtain ⟨q8, hq, h⟩ := bnd_some h
   refine v_call hC [(16, 1040)] rfl rfl rfl rfl Tryz.call111 (spec_LevelsBack_ac hq) rfl (by decide) trivial rfl (.inl rfl) rfl ?_
   iterate 5 refine v_op hT hC rfl rfl rfl rfl trivial ?_
   refine Vc.nil ?_
   refine s_reg ?_
   iterate 3 refine v_op hT hC rfl rfl rfl rfl trivial ?_
   obtain ⟨q9, hq, h⟩ := bnd_some h
   refine v_call hC [(16, 1136)] rfl rfl rfl rfl Tryz.call109 (spec_GuessOf_ac hq) rfl (by decide) trivial rfl (.inr ⟨rfl, ⟨trivial, trivial⟩⟩) rfl ?_
   refine v_op hT hC rfl rfl rfl rfl trivial ?_
   obtain ⟨q10, hq, h⟩ := bnd_some h
   refine v_call hC [(16, 1168)] rfl rfl rfl rfl Tryz.call112 (spec_Joined_ac hq) rfl (by decide) trivial rfl (.inr ⟨rfl, ⟨trivial, trivial⟩⟩) rfl ?_
   iterate 2 refine v_op hT hC rfl rfl rfl rfl trivial ?_
   refine Vc.nil ?_
   refine aw_ret ?_
   refine t_ret ?_
   injection h with h
   subst h
   refine ends (τ := ⟨[(16, .own 16), (17, .sv (.bool true))], [(16, some (.ints .i64 q10))]⟩) ?_ rfl ⟨rfl, trivial⟩
   apply w_conv hC [(16, 1168)]
   ·
    exact co
   ·
    rfl
   ·
    decide
   ·
    rfl
  ·
   refine s_false rfl hb6 ?_
   refine aw_skip ?_
   refine t_norm ?_
   refine s_in ?_
   refine live [2, 3, 5, 6, 9, 12, 15] [144, 192, 240] (s' := [_, _, _, _, _, _, _]) (o' := [_, _, _]) rfl rfl ?_
   obtain ⟨v11, h1, h⟩ := bnd_some h
   refine aw_to ([(80, .sv (.bool v11))], []) ?_ ?_
   ·
    have h := h1
    refine aw_region ?_
    iterate 3 refine v_op hT hC rfl rfl rfl rfl trivial ?_
    rcases sel_some h with ⟨hb7, h⟩ | ⟨hb7, h⟩
    ·
     refine v_off hC rfl rfl rfl rfl hb7 rfl rfl ?_
     refine v_off hC rfl rfl rfl rfl hb7 rfl rfl ?_
     refine v_off hC rfl rfl rfl rfl hb7 rfl rfl ?_
     refine v_pick hC rfl rfl rfl (b := true) hb7 rfl rfl rfl trivial ?_
     refine Vc.nil ?_
     injection h with h
     subst h
     refine m_norm ?_
     apply w_conv hC []
     ·
      exact co
     ·
      rfl
     ·
      decide
     ·
      rfl
    ·
     refine v_on hT hC rfl rfl rfl rfl hb7 rfl rfl rfl trivial ?_
     obtain ⟨q12, hq, h⟩ := bnd_some h
     refine v_call_on hC [] rfl rfl rfl rfl hb7 rfl rfl rfl Tryz.call58 (spec_PicOk_ac hq) rfl (by decide) trivial rfl (.inl rfl) rfl ?_
     refine v_on hT hC rfl rfl rfl rfl hb7 rfl rfl rfl trivial ?_
     refine v_pick hC rfl rfl rfl (b := false) hb7 rfl rfl rfl trivial ?_
     refine Vc.nil ?_
     injection h with h
     subst h
     refine m_norm ?_
     apply w_conv hC []
     ·
      exact co
     ·
      rfl
     ·
      decide
     ·
      rfl
   rcases sel_some h with ⟨hb8, h⟩ | ⟨hb8, h⟩
   ·
    refine s_true rfl hb8 ?_
    refine s_reg ?_
    iterate 3 refine v_op hT hC rfl rfl rfl rfl trivial ?_
    refine Vc.nil ?_
    refine aw_ret ?_
    refine t_ret ?_
    injection h with h
    subst h
    refine ends (τ := ⟨[(16, .own 16), (17, .sv (.bool false))], [(16, some (.ints .i64 ([] : List Int)))]⟩) ?_ rfl ⟨rfl, trivial⟩
    apply w_conv hC [(16, 1296)]
    ·
     exact co
    ·
     rfl
    ·
     decide
    ·
     rfl
   ·
    refine s_false rfl hb8 ?_
    refine aw_skip ?_
    refine t_norm ?_
    refine s_reg ?_
    iterate 13 refine v_op hT hC rfl rfl rfl rfl trivial ?_
    obtain ⟨q13, hq, h⟩ := bnd_some h
    refine v_call hC [(16, 1520)] rfl rfl rfl rfl Tryz.call79 (spec_BlockOf_ac hq) rfl (by decide) trivial rfl (.inl rfl) rfl ?_
    refine v_op hT hC rfl rfl rfl rfl trivial ?_
    refine Vc.nil ?_
    refine s_in ?_
    refine s_reg ?_
    iterate 3 refine v_op hT hC rfl rfl rfl rfl trivial ?_
    refine Vc.nil ?_
    rcases sel_some h with ⟨hb9, h⟩ | ⟨hb9, h⟩
    ·
     refine s_true rfl hb9 ?_
     refine s_reg ?_
     iterate 3 refine v_op hT hC rfl rfl rfl rfl trivial ?_
     refine Vc.nil ?_
     refine aw_ret ?_
     refine t_ret ?_
     injection h with h
     subst h
     refine ends (τ := ⟨[(16, .own 16), (17, .sv (.bool true))], [(16, some (.ints .i64 q13))]⟩) ?_ rfl ⟨rfl, trivial⟩
     apply w_conv hC [(16, 1520)]
     ·
      exact co
     ·
      rfl
     ·
      decide
     ·
      rfl
    ·
     refine s_false rfl hb9 ?_
     refine aw_skip ?_
     refine t_norm ?_
     refine s_reg ?_
     iterate 3 refine v_op hT hC rfl rfl rfl rfl trivial ?_
     obtain ⟨q14, hq, h⟩ := bnd_some h
     refine v_call hC [(16, 1664)] rfl rfl rfl rfl Tryz.call111 (spec_LevelsBack_ac hq) rfl (by decide) trivial rfl (.inl rfl) rfl ?_
     iterate 5 refine v_op hT hC rfl rfl rfl rfl trivial ?_
     refine Vc.nil ?_
     refine s_reg ?_
     iterate 2 refine v_op hT hC rfl rfl rfl rfl trivial ?_
     obtain ⟨q15, hq, h⟩ := bnd_some h
     refine v_call hC [(16, 1744)] rfl rfl rfl rfl Tryz.call112 (spec_Joined_ac hq) rfl (by decide) trivial rfl (.inr ⟨rfl, ⟨trivial, trivial⟩⟩) rfl ?_
     iterate 2 refine v_op hT hC rfl rfl rfl rfl trivial ?_
     refine Vc.nil ?_
     refine aw_ret ?_
     injection h with h
     subst h
     refine ends (τ := ⟨[(16, .own 16), (17, .sv (.bool true))], [(16, some (.ints .i64 q15))]⟩) ?_ rfl ⟨rfl, trivial⟩
     apply w_conv hC [(16, 1744)]
     ·
      exact co
     ·
      rfl
     ·
      decide
     ·
      rfl
def spec_SquareFor_res (r : (Square × (List Int) × Bool)) : AV := .tup [.agg [.sv (.int .i64 r.1.Kind), .sv (.int .i64 r.1.Mode), .sv (.int .i64 r.1.Dx), .sv (.int .i64 r.1.Dy), .own 16], .own 17, .sv (.bool r.2.2)]
def spec_SquareFor_obs (r : (Square × (List Int) × Bool)) : Objs := [(16, .ints .i64 r.1.Levels), (17, .ints .i64 r.2.1)]
theorem spec_SquareFor_ac {p0 : Pic} {p1 : Pic} {p2 : (List Int)} {p3 : Int} {p4 : Int} {p5 : Cond} {p6 : Int} {r : (Square × (List Int) × Bool)} (h : spec_SquareFor p0 p1 p2 p3 p4 p5 p6 = some r) : AC Tryz.prog 78 [.agg [.sv (.int .i64 p0.Wide), .sv (.int .i64 p0.High), .sv (.str p0.Dots)], .agg [.sv (.int .i64 p1.Wide), .sv (.int .i64 p1.High), .sv (.str p1.Dots)], .sv (.ints .i64 p2), .sv (.int .i64 p3), .sv (.int .i64 p4), .agg [.sv (.bool p5.Key), .sv (.int .i64 p5.Qp), .sv (.bool p5.Large), .sv (.bool p5.Exact)], .sv (.int .i64 p6)] [] (spec_SquareFor_res r) (spec_SquareFor_obs r) := by
 refine ac_of_body hT Tryz.func78 rfl fun C hC => ?_
 unfold spec_SquareFor at h
 refine s_reg ?_
 iterate 6 refine v_op hT hC rfl rfl rfl rfl trivial ?_
 refine Vc.nil ?_
 refine s_in ?_
 refine live [2, 3, 4, 6, 7, 8, 12, 14] [112, 128, 192, 224] (s' := [_, _, _, _, _, _, _, _]) (o' := [_, _, _, _]) rfl rfl ?_
 obtain ⟨v1, h1, h⟩ := bnd_some h
 refine aw_to ([(50, .sv (.bool v1))], []) ?_ ?_
 ·
  have h := h1
  refine aw_region ?_
  iterate 3 refine v_op hT hC rfl rfl rfl rfl trivial ?_
  obtain ⟨q2, hq, h⟩ := bnd_some h
  refine v_call hC [] rfl rfl rfl rfl Tryz.call93 (spec_l13Fits_ac hq) rfl (by decide) trivial rfl (.inl rfl) rfl ?_
  iterate 2 refine v_op hT hC rfl rfl rfl rfl trivial ?_
  rcases sel_some h with ⟨hb1, h⟩ | ⟨hb1, h⟩
  ·
   refine v_on hT hC rfl rfl rfl rfl (congrArg Bool.not hb1) rfl rfl rfl trivial ?_
   obtain ⟨q3, hq, h⟩ := bnd_some h
   refine v_call_on hC [] rfl rfl rfl rfl (congrArg Bool.not hb1) rfl rfl rfl Tryz.call94 (spec_l13Dots_ac hq) rfl (by decide) trivial rfl (.inl rfl) rfl ?_
   refine v_on hT hC rfl rfl rfl rfl (congrArg Bool.not hb1) rfl rfl rfl trivial ?_
   refine v_pick hC rfl rfl rfl (b := false) (congrArg Bool.not hb1) rfl rfl rfl trivial ?_
   refine v_op hT hC rfl rfl rfl rfl trivial ?_
   rcases sel_some h with ⟨hb2, h⟩ | ⟨hb2, h⟩
   ·
    refine v_on hT hC rfl rfl rfl rfl (congrArg Bool.not hb2) rfl rfl rfl trivial ?_
    obtain ⟨q4, hq, h⟩ := bnd_some h
    refine v_call_on hC [] rfl rfl rfl rfl (congrArg Bool.not hb2) rfl rfl rfl Tryz.call75 (spec_CondOk_ac hq) rfl (by decide) trivial rfl (.inl rfl) rfl ?_
    refine v_on hT hC rfl rfl rfl rfl (congrArg Bool.not hb2) rfl rfl rfl trivial ?_
    refine v_pick hC rfl rfl rfl (b := false) (congrArg Bool.not hb2) rfl rfl rfl trivial ?_
    refine v_op hT hC rfl rfl rfl rfl trivial ?_
    rcases sel_some h with ⟨hb3, h⟩ | ⟨hb3, h⟩
    ·
     refine v_on hT hC rfl rfl rfl rfl (congrArg Bool.not hb3) rfl rfl rfl trivial ?_
     obtain ⟨q5, hq, h⟩ := bnd_some h
     refine v_call_on hC [] rfl rfl rfl rfl (congrArg Bool.not hb3) rfl rfl rfl Tryz.call48 (spec_l01In_ac hq) rfl (by decide) trivial rfl (.inl rfl) rfl ?_
     refine v_on hT hC rfl rfl rfl rfl (congrArg Bool.not hb3) rfl rfl rfl trivial ?_
     refine v_pick hC rfl rfl rfl (b := false) (congrArg Bool.not hb3) rfl rfl rfl trivial ?_
     refine v_op hT hC rfl rfl rfl rfl trivial ?_
     rcases sel_some h with ⟨hb4, h⟩ | ⟨hb4, h⟩
     ·
      iterate 4 refine v_on hT hC rfl rfl rfl rfl (congrArg Bool.not hb4) rfl rfl rfl trivial ?_
      rcases sel_some h with ⟨hb5, h⟩ | ⟨hb5, h⟩
      ·
       refine v_off hC rfl rfl rfl rfl (congrArg Bool.not hb5) rfl rfl ?_
       refine v_off hC rfl rfl rfl rfl (congrArg Bool.not hb5) rfl rfl ?_
       refine v_off hC rfl rfl rfl rfl (congrArg Bool.not hb5) rfl rfl ?_
       refine v_off hC rfl rfl rfl rfl (congrArg Bool.not hb5) rfl rfl ?_
       refine v_pick_on hC rfl rfl rfl rfl (congrArg Bool.not hb4) rfl rfl (b := false) (congrArg Bool.not hb5) rfl rfl rfl trivial ?_
       refine v_pick hC rfl rfl rfl (b := false) (congrArg Bool.not hb4) rfl rfl rfl trivial ?_
       refine Vc.nil ?_
       injection h with h
       subst h
       refine m_norm ?_
       apply w_conv hC []
       ·
        exact co
       ·
        rfl
       ·
        decide
       ·
        rfl
      ·
       iterate 2 refine v_on hT hC rfl rfl rfl rfl (congrArg Bool.not hb5) rfl rfl rfl trivial ?_
       obtain ⟨q6, hq, h⟩ := bnd_some h
       refine v_call_on hC [] rfl rfl rfl rfl (congrArg Bool.not hb5) rfl rfl rfl Tryz.call76 (spec_l17Like_ac hq) rfl (by decide) trivial rfl (.inl rfl) rfl ?_
       refine v_on hT hC rfl rfl rfl rfl (congrArg Bool.not hb5) rfl rfl rfl trivial ?_
       refine v_pick_on hC rfl rfl rfl rfl (congrArg Bool.not hb4) rfl rfl (b := true) (congrArg Bool.not hb5) rfl rfl rfl trivial ?_
       refine v_pick hC rfl rfl rfl (b := false) (congrArg Bool.not hb4) rfl rfl rfl trivial ?_
       refine Vc.nil ?_
       injection h with h
       subst h
       refine m_norm ?_
       apply w_conv hC []
       ·
        exact co
       ·
        rfl
       ·
        decide
       ·
        rfl
     ·
      refine v_off hC rfl rfl rfl rfl (congrArg Bool.not hb4) rfl rfl ?_
      refine v_off hC rfl rfl rfl rfl (congrArg Bool.not hb4) rfl rfl ?_
      refine v_off hC rfl rfl rfl rfl (congrArg Bool.not hb4) rfl rfl ?_
      refine v_off hC rfl rfl rfl rfl (congrArg Bool.not hb4) rfl rfl ?_
      iterate 4 refine v_dead hC rfl rfl rfl rfl rfl rfl ?_
      refine v_off hC rfl rfl rfl rfl (congrArg Bool.not hb4) rfl rfl ?_
      refine v_pick hC rfl rfl rfl (b := true) (congrArg Bool.not hb4) rfl rfl rfl trivial ?_
      refine Vc.nil ?_
      injection h with h
      subst h
      refine m_norm ?_
      apply w_conv hC []
      ·
       exact co
      ·
       rfl
      ·
       decide
      ·
       rfl
    ·
     refine v_off hC rfl rfl rfl rfl (congrArg Bool.not hb3) rfl rfl ?_
     refine v_off hC rfl rfl rfl rfl (congrArg Bool.not hb3) rfl rfl ?_
     refine v_off hC rfl rfl rfl rfl (congrArg Bool.not hb3) rfl rfl ?_
     refine v_pick hC rfl rfl rfl (b := true) (congrArg Bool.not hb3) rfl rfl rfl trivial ?_
     refine v_op hT hC rfl rfl rfl rfl trivial ?_
     refine v_off hC rfl rfl rfl rfl rfl rfl rfl ?_
     refine v_off hC rfl rfl rfl rfl rfl rfl rfl ?_
     refine v_off hC rfl rfl rfl rfl rfl rfl rfl ?_
     refine v_off hC rfl rfl rfl rfl rfl rfl rfl ?_
     iterate 4 refine v_dead hC rfl rfl rfl rfl rfl rfl ?_
     refine v_off hC rfl rfl rfl rfl rfl rfl rfl ?_
     refine v_op hT hC rfl rfl rfl rfl trivial ?_
     refine Vc.nil ?_
     injection h with h
     subst h
     refine m_norm ?_
     apply w_conv hC []
     ·
      exact co
     ·
      rfl
     ·
      decide
     ·
      rfl
   ·
    refine v_off hC rfl rfl rfl rfl (congrArg Bool.not hb2) rfl rfl ?_
    refine v_off hC rfl rfl rfl rfl (congrArg Bool.not hb2) rfl rfl ?_
    refine v_off hC rfl rfl rfl rfl (congrArg Bool.not hb2) rfl rfl ?_
    refine v_pick hC rfl rfl rfl (b := true) (congrArg Bool.not hb2) rfl rfl rfl trivial ?_
    refine v_op hT hC rfl rfl rfl rfl trivial ?_
    refine v_off hC rfl rfl rfl rfl rfl rfl rfl ?_
    refine v_off hC rfl rfl rfl rfl rfl rfl rfl ?_
    refine v_off hC rfl rfl rfl rfl rfl rfl rfl ?_
    iterate 2 refine v_op hT hC rfl rfl rfl rfl trivial ?_
    refine v_off hC rfl rfl rfl rfl rfl rfl rfl ?_
    refine v_off hC rfl rfl rfl rfl rfl rfl rfl ?_
    refine v_off hC rfl rfl rfl rfl rfl rfl rfl ?_
    refine v_off hC rfl rfl rfl rfl rfl rfl rfl ?_
    iterate 4 refine v_dead hC rfl rfl rfl rfl rfl rfl ?_
    refine v_off hC rfl rfl rfl rfl rfl rfl rfl ?_
    refine v_op hT hC rfl rfl rfl rfl trivial ?_
    refine Vc.nil ?_
    injection h with h
    subst h
    refine m_norm ?_
    apply w_conv hC []
    ·
     exact co
    ·
     rfl
    ·
     decide
    ·
     rfl
  ·
   refine v_off hC rfl rfl rfl rfl (congrArg Bool.not hb1) rfl rfl ?_
   refine v_off hC rfl rfl rfl rfl (congrArg Bool.not hb1) rfl rfl ?_
   refine v_off hC rfl rfl rfl rfl (congrArg Bool.not hb1) rfl rfl ?_
   refine v_pick hC rfl rfl rfl (b := true) (congrArg Bool.not hb1) rfl rfl rfl trivial ?_
   refine v_op hT hC rfl rfl rfl rfl trivial ?_
   refine v_off hC rfl rfl rfl rfl rfl rfl rfl ?_
   refine v_off hC rfl rfl rfl rfl rfl rfl rfl ?_
   refine v_off hC rfl rfl rfl rfl rfl rfl rfl ?_
   iterate 2 refine v_op hT hC rfl rfl rfl rfl trivial ?_
   refine v_off hC rfl rfl rfl rfl rfl rfl rfl ?_
   refine v_off hC rfl rfl rfl rfl rfl rfl rfl ?_
   refine v_off hC rfl rfl rfl rfl rfl rfl rfl ?_
   iterate 2 refine v_op hT hC rfl rfl rfl rfl trivial ?_
   refine v_off hC rfl rfl rfl rfl rfl rfl rfl ?_
   refine v_off hC rfl rfl rfl rfl rfl rfl rfl ?_
   refine v_off hC rfl rfl rfl rfl rfl rfl rfl ?_
   refine v_off hC rfl rfl rfl rfl rfl rfl rfl ?_
   iterate 4 refine v_dead hC rfl rfl rfl rfl rfl rfl ?_
   refine v_off hC rfl rfl rfl rfl rfl rfl rfl ?_
   refine v_op hT hC rfl rfl rfl rfl trivial ?_
   refine Vc.nil ?_
   injection h with h
   subst h
   refine m_norm ?_
   apply w_conv hC []
   ·
    exact co
   ·
    rfl
   ·
    decide
   ·
    rfl
 rcases sel_some h with ⟨hb6, h⟩ | ⟨hb6, h⟩
 ·
  refine s_true rfl hb6 ?_
  refine s_reg ?_
  iterate 5 refine v_op hT hC rfl rfl rfl rfl trivial ?_
  refine Vc.nil ?_
  refine aw_ret ?_
  refine t_ret ?_
  injection h with h
  subst h
  refine ends (τ := ⟨[(14, .ptr 2000000 0), (15, .own 17), (16, .sv (.bool false))], [(16, some (.ints .i64 [])), (17, some (.ints .i64 ([] : List Int))), (2000000, some (.box [.sv (.int .i64 0), .sv (.int .i64 0), .sv (.int .i64 0), .sv (.int .i64 0), .own 16]))]⟩) ?_ rfl ⟨rfl, rfl, trivial⟩
  refine w_cell hC 224 4 1185 (.ints .i64 []) rfl rfl rfl rfl rfl trivial ?_
  apply w_conv hC [(16, 1185), (17, 832), (2000000, 224)]
  ·
   exact co
  ·
   rfl
  ·
   decide
  ·
   rfl
 ·
  refine s_false rfl hb6 ?_
  refine aw_skip ?_
  refine t_norm ?_
  refine s_reg ?_
  iterate 7 refine v_op hT hC rfl rfl rfl rfl trivial ?_
  obtain ⟨q7, hq, h⟩ := bnd_some h
  refine v_call hC [(16, 960)] rfl rfl rfl rfl Tryz.call95 (spec_l17Square_ac hq) rfl (by decide) trivial rfl (.inl rfl) rfl ?_
  iterate 2 refine v_op hT hC rfl rfl rfl rfl trivial ?_
  refine Vc.nil ?_
  refine s_reg ?_
  iterate 6 refine v_op hT hC rfl rfl rfl rfl trivial ?_
  obtain ⟨q8, hq, h⟩ := bnd_some h
  refine v_call hC [(16, 1088)] rfl rfl rfl rfl Tryz.call96 (spec_SquareDots_ac hq) rfl (by decide) trivial rfl (.inr ⟨rfl, ⟨trivial, trivial⟩⟩) rfl ?_
  iterate 5 refine v_op hT hC rfl rfl rfl rfl trivial ?_
  refine Vc.nil ?_
  refine s_reg ?_
  iterate 5 refine v_op hT hC rfl rfl rfl rfl trivial ?_
  refine Vc.nil ?_
  refine aw_ret ?_
  injection h with h
  subst h
  refine ends (τ := ⟨[(14, .ptr 2000000 0), (15, .own 17), (16, .sv (.bool true))], [(16, some (.ints .i64 q7.Levels)), (17, some (.ints .i64 q8.1)), (2000000, some (.box [.sv (.int .i64 q7.Kind), .sv (.int .i64 q7.Mode), .sv (.int .i64 q7.Dx), .sv (.int .i64 q7.Dy), .own 16]))]⟩) ?_ rfl ⟨rfl, rfl, trivial⟩
  apply w_conv hC [(16, 960), (17, 1088), (2000000, 224)]
  ·
   exact co
  ·
   rfl
  ·
   decide
  ·
   rfl
def spec_l16Put_res (r : Pic) : AV := .agg [.sv (.int .i64 r.Wide), .sv (.int .i64 r.High), .sv (.str r.Dots)]
def spec_l16Put_obs (r : Pic) : Objs := []
theorem spec_l16Put_ac {p0 : Pic} {p1 : Int} {p2 : Int} {p3 : (List Int)} {r : Pic} (h : spec_l16Put p0 p1 p2 p3 = some r) : AC Tryz.prog 80 [.agg [.sv (.int .i64 p0.Wide), .sv (.int .i64 p0.High), .sv (.str p0.Dots)], .sv (.int .i64 p1), .sv (.int .i64 p2), .sv (.ints .i64 p3)] [] (spec_l16Put_res r) (spec_l16Put_obs r) := by
 refine ac_of_body hT Tryz.func80 rfl fun C hC => ?_
 unfold spec_l16Put at h
 refine s_reg ?_
 iterate 2 refine v_op hT hC rfl rfl rfl rfl trivial ?_
 refine Vc.nil ?_
 refine s_reg ?_
 iterate 2 refine v_op hT hC rfl rfl rfl rfl trivial ?_
 obtain ⟨hq, h⟩ := req_some h
 refine v_op hT hC rfl rfl rfl rfl hq ?_
 refine v_op hT hC rfl rfl rfl rfl trivial ?_
 refine Vc.nil ?_
 refine s_in ?_
 refine s_reg ?_
 refine v_op hT hC rfl rfl rfl rfl trivial ?_
 refine Vc.nil ?_
 refine live [1, 2, 3, 4, 8, 9, 10] [64, 128, 208] (s' := [_, _, _, _, _, _, _]) (o' := [_, _, _]) rfl rfl ?_
 obtain ⟨v4, hl, h⟩ := bnd_some h
 refine s_loop (fun v2 => ([(10, .sv (.int .i64 v2.1))], [(208, some (.ints .u8 v2.2))])) (fun v4 => ([(1, .any), (2, .any), (3, .any), (10, .any)], [(208, some (.ints .u8 v4))])) hl ?_ ?_ ?_
 ·
  try dsimp only
  apply w_conv hC []
  ·
   exact co
  ·
   rfl
  ·
   decide
  ·
   rfl
 ·
  intro v2 s hs
  have h := hs
  unfold spec_l16Put_l2 at h
  refine s_in ?_
  refine s_reg ?_
  iterate 2 refine v_op hT hC rfl rfl rfl rfl trivial ?_
  refine Vc.nil ?_
  rcases sel_some h with ⟨hb3, h⟩ | ⟨hb3, h⟩
  ·
   refine s_true rfl hb3 ?_
   refine aw_skip ?_
   refine t_norm ?_
   refine s_in ?_
   refine s_block ?_
   refine aw_draw hm ?_
   iterate 3 refine v_op hT hC rfl rfl rfl rfl trivial ?_
   obtain ⟨hq, h⟩ := req_some h
   refine v_op hT hC rfl rfl rfl rfl hq ?_
   iterate 7 refine v_op hT hC rfl rfl rfl rfl trivial ?_
   obtain ⟨hq, h⟩ := req_some h
   refine v_op hT hC rfl rfl rfl rfl hq ?_
   iterate 3 refine v_op hT hC rfl rfl rfl rfl trivial ?_
   obtain ⟨hq, h⟩ := req_some h
   refine v_op hT hC rfl rfl rfl rfl hq ?_
   iterate 2 refine v_op hT hC rfl rfl rfl rfl trivial ?_
   obtain ⟨hq, h⟩ := req_some h
   refine v_op hT hC rfl rfl rfl rfl hq ?_
   obtain ⟨hq, h⟩ := req_some h
   refine v_op hT hC rfl rfl rfl rfl hq ?_
   refine Vc.nil ⟨by kernel_rfl, ?_⟩
   refine b_norm ?_
   refine t_norm ?_
   refine aw_region ?_
   iterate 3 refine v_op hT hC rfl rfl rfl rfl trivial ?_
   refine Vc.nil ?_
   injection h with h
   subst h
   refine r_go ?_
   try dsimp only
   apply w_conv hC []
   ·
    exact co
   ·
    rfl
   ·
    decide
   ·
    rfl
  ·
   refine s_false rfl hb3 ?_
   refine aw_exit ?_
   refine t_exit ?_
   injection h with h
   subst h
   refine r_exit ?_
   refine o_out ?_
   apply w_conv hC []
   ·
    exact co
   ·
    rfl
   ·
    decide
   ·
    rfl
 refine t_norm ?_
 refine s_reg ?_
 iterate 8 refine v_op hT hC rfl rfl rfl rfl trivial ?_
 refine Vc.nil ?_
 refine aw_ret ?_
 injection h with h
 subst h
 exact ends (Weak.refl _) rfl trivial
def spec_TileFor_res (r : ((List Square) × Pic × Bool)) : AV := .tup [.own 16, .agg [.sv (.int .i64 r.2.1.Wide), .sv (.int .i64 r.2.1.High), .sv (.str r.2.1.Dots)], .sv (.bool r.2.2)]
def spec_TileFor_obs (r : ((List Square) × Pic × Bool)) : Objs := [(16, .row cSquare r.1)]
theorem spec_TileFor_ac {p0 : Pic} {p1 : Pic} {p2 : Cond} {p3 : Int} {r : ((List Square) × Pic × Bool)} (h : spec_TileFor p0 p1 p2 p3 = some r) : AC Tryz.prog 61 [.agg [.sv (.int .i64 p0.Wide), .sv (.int .i64 p0.High), .sv (.str p0.Dots)], .agg [.sv (.int .i64 p1.Wide), .sv (.int .i64 p1.High), .sv (.str p1.Dots)], .agg [.sv (.bool p2.Key), .sv (.int .i64 p2.Qp), .sv (.bool p2.Large), .sv (.bool p2.Exact)], .sv (.int .i64 p3)] [] (spec_TileFor_res r) (spec_TileFor_obs r) := by
 refine ac_of_body hT Tryz.func61 rfl fun C hC => ?_
 unfold spec_TileFor at h
 refine s_reg ?_
 iterate 6 refine v_op hT hC rfl rfl rfl rfl trivial ?_
 refine Vc.nil ?_
 refine s_reg ?_
 iterate 2 refine v_op hT hC rfl rfl rfl rfl trivial ?_
 refine Vc.nil ?_
 refine s_in ?_
 refine live [3, 4, 5, 6, 9, 11] [64, 80, 96, 144, 288] (s' := [_, _, _, _, _, _]) (o' := [_, _, _, _, _]) rfl rfl ?_
 obtain ⟨v1, h1, h⟩ := bnd_some h
 refine aw_to ([(54, .sv (.bool v1))], []) ?_ ?_
 ·
  have h := h1
  refine aw_region ?_
  refine v_op hT hC rfl rfl rfl rfl trivial ?_
  obtain ⟨q2, hq, h⟩ := bnd_some h
  refine v_call hC [] rfl rfl rfl rfl Tryz.call58 (spec_PicOk_ac hq) rfl (by decide) trivial rfl (.inl rfl) rfl ?_
  iterate 2 refine v_op hT hC rfl rfl rfl rfl trivial ?_
  rcases sel_some h with ⟨hb1, h⟩ | ⟨hb1, h⟩
  ·
   iterate 2 refine v_on hT hC rfl rfl rfl rfl (congrArg Bool.not hb1) rfl rfl rfl trivial ?_
   obtain ⟨q3, hq, h⟩ := bnd_some h
   refine v_call_on hC [] rfl rfl rfl rfl (congrArg Bool.not hb1) rfl rfl rfl Tryz.call74 (spec_l16Side_ac hq) rfl (by decide) trivial rfl (.inl rfl) rfl ?_
   refine v_on hT hC rfl rfl rfl rfl (congrArg Bool.not hb1) rfl rfl rfl trivial ?_
   refine v_pick hC rfl rfl rfl (b := false) (congrArg Bool.not hb1) rfl rfl rfl trivial ?_
   refine v_op hT hC rfl rfl rfl rfl trivial ?_
   rcases sel_some h with ⟨hb2, h⟩ | ⟨hb2, h⟩
   ·
    iterate 2 refine v_on hT hC rfl rfl rfl rfl (congrArg Bool.not hb2) rfl rfl rfl trivial ?_
    obtain ⟨q4, hq, h⟩ := bnd_some h
    refine v_call_on hC [] rfl rfl rfl rfl (congrArg Bool.not hb2) rfl rfl rfl Tryz.call74 (spec_l16Side_ac hq) rfl (by decide) trivial rfl (.inl rfl) rfl ?_
    refine v_on hT hC rfl rfl rfl rfl (congrArg Bool.not hb2) rfl rfl rfl trivial ?_
    refine v_pick hC rfl rfl rfl (b := false) (congrArg Bool.not hb2) rfl rfl rfl trivial ?_
    refine v_op hT hC rfl rfl rfl rfl trivial ?_
    rcases sel_some h with ⟨hb3, h⟩ | ⟨hb3, h⟩
    ·
     refine v_on hT hC rfl rfl rfl rfl (congrArg Bool.not hb3) rfl rfl rfl trivial ?_
     obtain ⟨q5, hq, h⟩ := bnd_some h
     refine v_call_on hC [] rfl rfl rfl rfl (congrArg Bool.not hb3) rfl rfl rfl Tryz.call75 (spec_CondOk_ac hq) rfl (by decide) trivial rfl (.inl rfl) rfl ?_
     refine v_on hT hC rfl rfl rfl rfl (congrArg Bool.not hb3) rfl rfl rfl trivial ?_
     refine v_pick hC rfl rfl rfl (b := false) (congrArg Bool.not hb3) rfl rfl rfl trivial ?_
     refine v_op hT hC rfl rfl rfl rfl trivial ?_
     rcases sel_some h with ⟨hb4, h⟩ | ⟨hb4, h⟩
     ·
      refine v_on hT hC rfl rfl rfl rfl (congrArg Bool.not hb4) rfl rfl rfl trivial ?_
      obtain ⟨q6, hq, h⟩ := bnd_some h
      refine v_call_on hC [] rfl rfl rfl rfl (congrArg Bool.not hb4) rfl rfl rfl Tryz.call48 (spec_l01In_ac hq) rfl (by decide) trivial rfl (.inl rfl) rfl ?_
      refine v_on hT hC rfl rfl rfl rfl (congrArg Bool.not hb4) rfl rfl rfl trivial ?_
      refine v_pick hC rfl rfl rfl (b := false) (congrArg Bool.not hb4) rfl rfl rfl trivial ?_
      refine v_op hT hC rfl rfl rfl rfl trivial ?_
      rcases sel_some h with ⟨hb5, h⟩ | ⟨hb5, h⟩
      ·
       iterate 4 refine v_on hT hC rfl rfl rfl rfl (congrArg Bool.not hb5) rfl rfl rfl trivial ?_
       rcases sel_some h with ⟨hb6, h⟩ | ⟨hb6, h⟩
       ·
        refine v_off hC rfl rfl rfl rfl (congrArg Bool.not hb6) rfl rfl ?_
        refine v_off hC rfl rfl rfl rfl (congrArg Bool.not hb6) rfl rfl ?_
        refine v_off hC rfl rfl rfl rfl (congrArg Bool.not hb6) rfl rfl ?_
        refine v_off hC rfl rfl rfl rfl (congrArg Bool.not hb6) rfl rfl ?_
        refine v_pick_on hC rfl rfl rfl rfl (congrArg Bool.not hb5) rfl rfl (b := false) (congrArg Bool.not hb6) rfl rfl rfl trivial ?_
        refine v_pick hC rfl rfl rfl (b := false) (congrArg Bool.not hb5) rfl rfl rfl trivial ?_
        refine Vc.nil ?_
        injection h with h
        subst h
        refine m_norm ?_
        apply w_conv hC []
        ·
         exact co
        ·
         rfl
        ·
         decide
        ·
         rfl
       ·
        iterate 2 refine v_on hT hC rfl rfl rfl rfl (congrArg Bool.not hb6) rfl rfl rfl trivial ?_
        obtain ⟨q7, hq, h⟩ := bnd_some h
        refine v_call_on hC [] rfl rfl rfl rfl (congrArg Bool.not hb6) rfl rfl rfl Tryz.call76 (spec_l17Like_ac hq) rfl (by decide) trivial rfl (.inl rfl) rfl ?_
        refine v_on hT hC rfl rfl rfl rfl (congrArg Bool.not hb6) rfl rfl rfl trivial ?_
        refine v_pick_on hC rfl rfl rfl rfl (congrArg Bool.not hb5) rfl rfl (b := true) (congrArg Bool.not hb6) rfl rfl rfl trivial ?_
        refine v_pick hC rfl rfl rfl (b := false) (congrArg Bool.not hb5) rfl rfl rfl trivial ?_
        refine Vc.nil ?_
        injection h with h
        subst h
        refine m_norm ?_
        apply w_conv hC []
        ·
         exact co
        ·
         rfl
        ·
         decide
        ·
         rfl
      ·
       refine v_off hC rfl rfl rfl rfl (congrArg Bool.not hb5) rfl rfl ?_
       refine v_off hC rfl rfl rfl rfl (congrArg Bool.not hb5) rfl rfl ?_
       refine v_off hC rfl rfl rfl rfl (congrArg Bool.not hb5) rfl rfl ?_
       refine v_off hC rfl rfl rfl rfl (congrArg Bool.not hb5) rfl rfl ?_
       iterate 4 refine v_dead hC rfl rfl rfl rfl rfl rfl ?_
       refine v_off hC rfl rfl rfl rfl (congrArg Bool.not hb5) rfl rfl ?_
       refine v_pick hC rfl rfl rfl (b := true) (congrArg Bool.not hb5) rfl rfl rfl trivial ?_
       refine Vc.nil ?_
       injection h with h
       subst h
       refine m_norm ?_
       apply w_conv hC []
       ·
        exact co
       ·
        rfl
       ·
        decide
       ·
        rfl
     ·
      refine v_off hC rfl rfl rfl rfl (congrArg Bool.not hb4) rfl rfl ?_
      refine v_off hC rfl rfl rfl rfl (congrArg Bool.not hb4) rfl rfl ?_
      refine v_off hC rfl rfl rfl rfl (congrArg Bool.not hb4) rfl rfl ?_
      refine v_pick hC rfl rfl rfl (b := true) (congrArg Bool.not hb4) rfl rfl rfl trivial ?_
      refine v_op hT hC rfl rfl rfl rfl trivial ?_
      refine v_off hC rfl rfl rfl rfl rfl rfl rfl ?_
      refine v_off hC rfl rfl rfl rfl rfl rfl rfl ?_
      refine v_off hC rfl rfl rfl rfl rfl rfl rfl ?_
      refine v_off hC rfl rfl rfl rfl rfl rfl rfl ?_
      iterate 4 refine v_dead hC rfl rfl rfl rfl rfl rfl ?_
      refine v_off hC rfl rfl rfl rfl rfl rfl rfl ?_
      refine v_op hT hC rfl rfl rfl rfl trivial ?_
      refine Vc.nil ?_
      injection h with h
      subst h
      refine m_norm ?_
      apply w_conv hC []
      ·
       exact co
      ·
       rfl
      ·
       decide
      ·
       rfl
    ·
     refine v_off hC rfl rfl rfl rfl (congrArg Bool.not hb3) rfl rfl ?_
     refine v_off hC rfl rfl rfl rfl (congrArg Bool.not hb3) rfl rfl ?_
     refine v_off hC rfl rfl rfl rfl (congrArg Bool.not hb3) rfl rfl ?_
     refine v_pick hC rfl rfl rfl (b := true) (congrArg Bool.not hb3) rfl rfl rfl trivial ?_
     refine v_op hT hC rfl rfl rfl rfl trivial ?_
     refine v_off hC rfl rfl rfl rfl rfl rfl rfl ?_
     refine v_off hC rfl rfl rfl rfl rfl rfl rfl ?_
     refine v_off hC rfl rfl rfl rfl rfl rfl rfl ?_
     iterate 2 refine v_op hT hC rfl rfl rfl rfl trivial ?_
     refine v_off hC rfl rfl rfl rfl rfl rfl rfl ?_
     refine v_off hC rfl rfl rfl rfl rfl rfl rfl ?_
     refine v_off hC rfl rfl rfl rfl rfl rfl rfl ?_
     refine v_off hC rfl rfl rfl rfl rfl rfl rfl ?_
     iterate 4 refine v_dead hC rfl rfl rfl rfl rfl rfl ?_
     refine v_off hC rfl rfl rfl rfl rfl rfl rfl ?_
     refine v_op hT hC rfl rfl rfl rfl trivial ?_
     refine Vc.nil ?_
     injection h with h
     subst h
     refine m_norm ?_
     apply w_conv hC []
     ·
      exact co
     ·
      rfl
     ·
      decide
     ·
      rfl
   ·
    refine v_off hC rfl rfl rfl rfl (congrArg Bool.not hb2) rfl rfl ?_
    refine v_off hC rfl rfl rfl rfl (congrArg Bool.not hb2) rfl rfl ?_
    refine v_off hC rfl rfl rfl rfl (congrArg Bool.not hb2) rfl rfl ?_
    refine v_off hC rfl rfl rfl rfl (congrArg Bool.not hb2) rfl rfl ?_
    refine v_pick hC rfl rfl rfl (b := true) (congrArg Bool.not hb2) rfl rfl rfl trivial ?_
    refine v_op hT hC rfl rfl rfl rfl trivial ?_
    refine v_off hC rfl rfl rfl rfl rfl rfl rfl ?_
    refine v_off hC rfl rfl rfl rfl rfl rfl rfl ?_
    refine v_off hC rfl rfl rfl rfl rfl rfl rfl ?_
    iterate 2 refine v_op hT hC rfl rfl rfl rfl trivial ?_
    refine v_off hC rfl rfl rfl rfl rfl rfl rfl ?_
    refine v_off hC rfl rfl rfl rfl rfl rfl rfl ?_
    refine v_off hC rfl rfl rfl rfl rfl rfl rfl ?_
    iterate 2 refine v_op hT hC rfl rfl rfl rfl trivial ?_
    refine v_off hC rfl rfl rfl rfl rfl rfl rfl ?_
    refine v_off hC rfl rfl rfl rfl rfl rfl rfl ?_
    refine v_off hC rfl rfl rfl rfl rfl rfl rfl ?_
    refine v_off hC rfl rfl rfl rfl rfl rfl rfl ?_
    iterate 4 refine v_dead hC rfl rfl rfl rfl rfl rfl ?_
    refine v_off hC rfl rfl rfl rfl rfl rfl rfl ?_
    refine v_op hT hC rfl rfl rfl rfl trivial ?_
    refine Vc.nil ?_
    injection h with h
    subst h
    refine m_norm ?_
    apply w_conv hC []
    ·
     exact co
    ·
     rfl
    ·
     decide
    ·
     rfl
  ·
   refine v_off hC rfl rfl rfl rfl (congrArg Bool.not hb1) rfl rfl ?_
   refine v_off hC rfl rfl rfl rfl (congrArg Bool.not hb1) rfl rfl ?_
   refine v_off hC rfl rfl rfl rfl (congrArg Bool.not hb1) rfl rfl ?_
   refine v_off hC rfl rfl rfl rfl (congrArg Bool.not hb1) rfl rfl ?_
   refine v_pick hC rfl rfl rfl (b := true) (congrArg Bool.not hb1) rfl rfl rfl trivial ?_
   refine v_op hT hC rfl rfl rfl rfl trivial ?_
   refine v_off hC rfl rfl rfl rfl rfl rfl rfl ?_
   refine v_off hC rfl rfl rfl rfl rfl rfl rfl ?_
   refine v_off hC rfl rfl rfl rfl rfl rfl rfl ?_
   refine v_off hC rfl rfl rfl rfl rfl rfl rfl ?_
   iterate 2 refine v_op hT hC rfl rfl rfl rfl trivial ?_
   refine v_off hC rfl rfl rfl rfl rfl rfl rfl ?_
   refine v_off hC rfl rfl rfl rfl rfl rfl rfl ?_
   refine v_off hC rfl rfl rfl rfl rfl rfl rfl ?_
   iterate 2 refine v_op hT hC rfl rfl rfl rfl trivial ?_
   refine v_off hC rfl rfl rfl rfl rfl rfl rfl ?_
   refine v_off hC rfl rfl rfl rfl rfl rfl rfl ?_
   refine v_off hC rfl rfl rfl rfl rfl rfl rfl ?_
   iterate 2 refine v_op hT hC rfl rfl rfl rfl trivial ?_
   refine v_off hC rfl rfl rfl rfl rfl rfl rfl ?_
   refine v_off hC rfl rfl rfl rfl rfl rfl rfl ?_
   refine v_off hC rfl rfl rfl rfl rfl rfl rfl ?_
   refine v_off hC rfl rfl rfl rfl rfl rfl rfl ?_
   iterate 4 refine v_dead hC rfl rfl rfl rfl rfl rfl ?_
   refine v_off hC rfl rfl rfl rfl rfl rfl rfl ?_
   refine v_op hT hC rfl rfl rfl rfl trivial ?_
   refine Vc.nil ?_
   injection h with h
   subst h
   refine m_norm ?_
   apply w_conv hC []
   ·
    exact co
   ·
    rfl
   ·
    decide
   ·
    rfl
 rcases sel_some h with ⟨hb7, h⟩ | ⟨hb7, h⟩
 ·
  refine s_true rfl hb7 ?_
  refine s_reg ?_
  iterate 5 refine v_op hT hC rfl rfl rfl rfl trivial ?_
  refine Vc.nil ?_
  refine aw_ret ?_
  refine t_ret ?_
  injection h with h
  subst h
  refine ends (τ := ⟨[(8, .own 16), (9, .ptr 2000001 0), (10, .sv (.bool false))], [(16, some (.row cSquare ([] : List Square))), (2000001, some (.box [.sv (.int .i64 0), .sv (.int .i64 0), .sv (.str ⟨#[]⟩)]))]⟩) ?_ rfl ⟨rfl, trivial⟩
  apply w_conv hC [(16, 288), (2000001, 144)]
  ·
   exact co
  ·
   rfl
  ·
   decide
  ·
   rfl
 ·
  refine s_false rfl hb7 ?_
  refine aw_skip ?_
  refine t_norm ?_
  refine s_reg ?_
  iterate 4 refine v_op hT hC rfl rfl rfl rfl trivial ?_
  obtain ⟨q8, hq, h⟩ := bnd_some h
  refine v_call hC [] rfl rfl rfl rfl Tryz.call77 (spec_Grey_ac hq) rfl (by decide) trivial rfl (.inl rfl) rfl ?_
  iterate 2 refine v_op hT hC rfl rfl rfl rfl trivial ?_
  refine Vc.nil ?_
  refine s_in ?_
  refine s_reg ?_
  refine v_op hT hC rfl rfl rfl rfl trivial ?_
  refine Vc.nil ?_
  refine live [3, 4, 5, 6, 9, 11, 12, 13] [64, 80, 96, 144, 192, 288] (s' := [_, _, _, _, _, _, _, _]) (o' := [_, _, _, _, _, _]) rfl rfl ?_
  obtain ⟨v40, hl, h⟩ := bnd_some h
  refine s_loop (fun v24 => ([(13, .sv (.int .i64 v24.1))], [(192, some (.box [.sv (.int .i64 v24.2.2.1), .sv (.int .i64 v24.2.2.2.1), .sv (.str v24.2.2.2.2)])), (288, some (.row cSquare v24.2.1))])) (fun v40 => ([(3, .any), (4, .any), (5, .any), (6, .any), (13, .any)], [(192, some (.box [.sv (.int .i64 v40.2.1), .sv (.int .i64 v40.2.2.1), .sv (.str v40.2.2.2)])), (288, some (.row cSquare v40.1)), (64, none), (80, none), (96, none)])) hl ?_ ?_ ?_
  ·
   try dsimp only
   apply w_conv hC []
   ·
    exact co
   ·
    rfl
   ·
    decide
   ·
    rfl
  ·
   intro v24 s hs
   have h := hs
   unfold spec_TileFor_l12 at h
   refine s_in ?_
   refine s_reg ?_
   iterate 4 refine v_op hT hC rfl rfl rfl rfl trivial ?_
   refine Vc.nil ?_
   rcases sel_some h with ⟨hb16, h⟩ | ⟨hb16, h⟩
   ·
    refine s_true rfl hb16 ?_
    refine aw_skip ?_
    refine t_norm ?_
    refine s_in ?_
    refine s_block ?_
    refine s_reg ?_
    refine v_op hT hC rfl rfl rfl rfl trivial ?_
    refine Vc.nil ?_
    refine live [3, 4, 5, 6, 9, 11, 12, 13, 14] [64, 80, 96, 144, 192, 288] (s' := [_, _, _, _, _, _, _, _, _]) (o' := [_, _, _, _, _, _]) rfl rfl ?_
    obtain ⟨v50, hl, h⟩ := bnd_some h
    refine s_loop (fun v45 => ([(14, .sv (.int .i64 v45.1))], [(192, some (.box [.sv (.int .i64 v45.2.2.1), .sv (.int .i64 v45.2.2.2.1), .sv (.str v45.2.2.2.2)])), (288, some (.row cSquare v45.2.1))])) (fun v50 => ([(14, .any)], [(192, some (.box [.sv (.int .i64 v50.2.1), .sv (.int .i64 v50.2.2.1), .sv (.str v50.2.2.2)])), (288, some (.row cSquare v50.1))])) hl ?_ ?_ ?_
    ·
     try dsimp only
     apply w_conv hC []
     ·
      exact co
     ·
      rfl
     ·
      decide
     ·
      rfl
    ·
     intro v45 s hs
     have h := hs
     unfold spec_TileFor_l14 at h
     refine s_in ?_
     refine s_reg ?_
     iterate 4 refine v_op hT hC rfl rfl rfl rfl trivial ?_
     refine Vc.nil ?_
     rcases sel_some h with ⟨hb19, h⟩ | ⟨hb19, h⟩
     ·
      refine s_true rfl hb19 ?_
      refine aw_skip ?_
      refine t_norm ?_
      refine s_in ?_
      refine s_block ?_
      refine s_draw hm ?_
      iterate 5 refine v_op hT hC rfl rfl rfl rfl trivial ?_
      obtain ⟨q51, hq, h⟩ := bnd_some h
      refine v_call hC [(16, 1280)] rfl rfl rfl rfl Tryz.call79 (spec_BlockOf_ac hq) rfl (by decide) trivial rfl (.inl rfl) rfl ?_
      iterate 4 refine v_op hT hC rfl rfl rfl rfl trivial ?_
      obtain ⟨q52, hq, h⟩ := bnd_some h
      refine v_call hC [(16, 1360), (17, 1361)] rfl rfl rfl rfl Tryz.call78 (spec_SquareFor_ac hq) rfl (by decide) trivial rfl (.inr ⟨rfl, ⟨trivial, trivial, trivial⟩⟩) rfl ?_
      iterate 8 refine v_op hT hC rfl rfl rfl rfl trivial ?_
      refine Vc.nil ⟨by kernel_rfl, ?_⟩
      refine s_reg ?_
      iterate 3 refine v_op hT hC rfl rfl rfl rfl trivial ?_
      obtain ⟨hq, h⟩ := req_some h
      refine v_op hT hC rfl rfl rfl rfl ⟨fun _ _ => rfl, by rw [cSquare_id]; exact hq⟩ ?_
      rw [cSquare_id]
      refine v_op hT hC rfl rfl rfl rfl trivial ?_
      refine Vc.nil ?_
      refine aw_region ?_
      iterate 4 refine v_op hT hC rfl rfl rfl rfl trivial ?_
      obtain ⟨q53, hq, h⟩ := bnd_some h
      refine v_call hC [] rfl rfl rfl rfl Tryz.call80 (spec_l16Put_ac hq) rfl (by decide) trivial rfl (.inr ⟨rfl, trivial⟩) rfl ?_
      refine v_op hT hC rfl rfl rfl rfl trivial ?_
      refine Vc.nil ?_
      refine b_norm ?_
      refine t_norm ?_
      refine aw_region ?_
      iterate 3 refine v_op hT hC rfl rfl rfl rfl trivial ?_
      refine Vc.nil ?_
      injection h with h
      subst h
      refine r_go ?_
      try dsimp only
      apply w_conv hC [(288, 1472)]
      ·
       exact co
      ·
       rfl
      ·
       decide
      ·
       rfl
     ·
      refine s_false rfl hb19 ?_
      refine aw_exit ?_
      refine t_exit ?_
      injection h with h
      subst h
      refine r_exit ?_
      refine o_out ?_
      try dsimp only
      apply w_conv hC []
      ·
       exact co
      ·
       rfl
      ·
       decide
      ·
       rfl
    refine b_norm ?_
    refine t_norm ?_
    refine aw_region ?_
    iterate 3 refine v_op hT hC rfl rfl rfl rfl trivial ?_
    refine Vc.nil ?_
    injection h with h
    subst h
    refine r_go ?_
    try dsimp only
    apply w_conv hC []
    ·
     exact co
    ·
     rfl
    ·
     decide
    ·
     rfl
   ·
    refine s_false rfl hb16 ?_
    refine aw_exit ?_
    refine t_exit ?_
    injection h with h
    subst h
    refine r_exit ?_
    refine o_out ?_
    try dsimp only
    apply w_conv hC []
    ·
     exact co
    ·
     rfl
    ·
     decide
    ·
     rfl
  refine t_norm ?_
  refine s_draw hm ?_
  iterate 5 refine v_op hT hC rfl rfl rfl rfl trivial ?_
  refine Vc.nil ⟨by kernel_rfl, ?_⟩
  refine aw_ret ?_
  injection h with h
  subst h
  refine ends (τ := ⟨[(8, .own 16), (9, .ptr 2000001 0), (10, .sv (.bool true))], [(16, some (.row cSquare v40.1)), (2000001, some (.box [.sv (.int .i64 v40.2.1), .sv (.int .i64 v40.2.2.1), .sv (.str v40.2.2.2)]))]⟩) ?_ rfl ⟨rfl, trivial⟩
  apply w_conv hC [(16, 288), (2000001, 144)]
  ·
   exact co
  ·
   rfl
  ·
   decide
  ·
   rfl
def spec_HeadOk_res (r : Bool) : AV := .sv (.bool r)
def spec_HeadOk_obs (r : Bool) : Objs := []
theorem spec_HeadOk_ac {p0 : Seq} {p1 : Par} {p2 : Head} {r : Bool} (h : spec_HeadOk p0 p1 p2 = some r) : AC Tryz.prog 81 [.agg [.sv (.int .i64 p0.Level), .sv (.int .i64 p0.Bits), .sv (.ints .i64 p0.Cols), .sv (.ints .i64 p0.Rows)], .agg [.sv (.int .i64 p1.Qp), .sv (.bool p1.Large), .sv (.bool p1.Exact), .sv (.bool p1.Confined)], .agg [.sv (.int .i64 p2.Tile), .sv (.int .i64 p2.Frame), .sv (.int .i64 p2.Qp)]] [] (spec_HeadOk_res r) (spec_HeadOk_obs r) := by
 refine ac_of_body hT Tryz.func81 rfl fun C hC => ?_
 unfold spec_HeadOk at h
 refine s_reg ?_
 iterate 4 refine v_op hT hC rfl rfl rfl rfl trivial ?_
 refine Vc.nil ?_
 refine live [3, 4, 5, 6] [48, 64, 80] (s' := [_, _, _, _]) (o' := [_, _, _]) rfl rfl ?_
 obtain ⟨v1, h1, h⟩ := bnd_some h
 refine aw_to ([(6, .sv (.bool v1)), (3, .any), (4, .any), (5, .any)], [(48, none), (64, none), (80, none)]) ?_ ?_
 ·
  have h := h1
  refine aw_draw hm ?_
  refine v_op hT hC rfl rfl rfl rfl trivial ?_
  obtain ⟨q2, hq, h⟩ := bnd_some h
  refine v_call hC [] rfl rfl rfl rfl Tryz.call70 (spec_ParOk_ac hq) rfl (by decide) trivial rfl (.inl rfl) rfl ?_
  refine v_op hT hC rfl rfl rfl rfl trivial ?_
  rcases sel_some h with ⟨hb1, h⟩ | ⟨hb1, h⟩
  ·
   iterate 3 refine v_on hT hC rfl rfl rfl rfl hb1 rfl rfl rfl trivial ?_
   refine v_pick hC rfl rfl rfl (b := true) hb1 rfl rfl rfl trivial ?_
   refine v_op hT hC rfl rfl rfl rfl trivial ?_
   rcases sel_some h with ⟨hb2, h⟩ | ⟨hb2, h⟩
   ·
    iterate 3 refine v_on hT hC rfl rfl rfl rfl hb2 rfl rfl rfl trivial ?_
    obtain ⟨q3, hq, h⟩ := bnd_some h
    refine v_call_on hC [] rfl rfl rfl rfl hb2 rfl rfl rfl Tryz.call69 (spec_TilesOf_ac hq) rfl (by decide) trivial rfl (.inl rfl) rfl ?_
    refine v_on hT hC rfl rfl rfl rfl hb2 rfl rfl rfl trivial ?_
    refine v_pick hC rfl rfl rfl (b := true) hb2 rfl rfl rfl trivial ?_
    refine v_op hT hC rfl rfl rfl rfl trivial ?_
    rcases sel_some h with ⟨hb3, h⟩ | ⟨hb3, h⟩
    ·
     iterate 3 refine v_on hT hC rfl rfl rfl rfl hb3 rfl rfl rfl trivial ?_
     refine v_pick hC rfl rfl rfl (b := true) hb3 rfl rfl rfl trivial ?_
     refine v_op hT hC rfl rfl rfl rfl trivial ?_
     rcases sel_some h with ⟨hb4, h⟩ | ⟨hb4, h⟩
     ·
      iterate 5 refine v_on hT hC rfl rfl rfl rfl hb4 rfl rfl rfl trivial ?_
      obtain ⟨hq, h⟩ := req_some h
      refine v_on hT hC rfl rfl rfl rfl hb4 rfl rfl rfl hq ?_
      refine v_on hT hC rfl rfl rfl rfl hb4 rfl rfl rfl trivial ?_
      refine v_pick hC rfl rfl rfl (b := true) hb4 rfl rfl rfl trivial ?_
      refine v_op hT hC rfl rfl rfl rfl trivial ?_
      rcases sel_some h with ⟨hb5, h⟩ | ⟨hb5, h⟩
      ·
       iterate 2 refine v_on hT hC rfl rfl rfl rfl hb5 rfl rfl rfl trivial ?_
       obtain ⟨q4, hq, h⟩ := bnd_some h
       refine v_call_on hC [] rfl rfl rfl rfl hb5 rfl rfl rfl Tryz.call48 (spec_l01In_ac hq) rfl (by decide) trivial rfl (.inl rfl) rfl ?_
       refine v_pick hC rfl rfl rfl (b := true) hb5 rfl rfl rfl trivial ?_
       refine v_op hT hC rfl rfl rfl rfl trivial ?_
       refine Vc.nil ⟨by kernel_rfl, ?_⟩
       injection h with h
       subst h
       refine m_norm ?_
       apply w_conv hC []
       ·
        exact co
       ·
        rfl
       ·
        decide
       ·
        rfl
      ·
       refine v_off hC rfl rfl rfl rfl hb5 rfl rfl ?_
       refine v_off hC rfl rfl rfl rfl hb5 rfl rfl ?_
       refine v_off hC rfl rfl rfl rfl hb5 rfl rfl ?_
       refine v_pick hC rfl rfl rfl (b := false) hb5 rfl rfl rfl trivial ?_
       refine v_op hT hC rfl rfl rfl rfl trivial ?_
       refine Vc.nil ⟨by kernel_rfl, ?_⟩
       injection h with h
       subst h
       refine m_norm ?_
       apply w_conv hC []
       ·
        exact co
       ·
        rfl
       ·
        decide
       ·
        rfl
     ·
      refine v_off hC rfl rfl rfl rfl hb4 rfl rfl ?_
      refine v_off hC rfl rfl rfl rfl hb4 rfl rfl ?_
      refine v_off hC rfl rfl rfl rfl hb4 rfl rfl ?_
      refine v_off hC rfl rfl rfl rfl hb4 rfl rfl ?_
      refine v_off hC rfl rfl rfl rfl hb4 rfl rfl ?_
      refine v_off hC rfl rfl rfl rfl hb4 rfl rfl ?_
      refine v_off hC rfl rfl rfl rfl hb4 rfl rfl ?_
      refine v_pick hC rfl rfl rfl (b := false) hb4 rfl rfl rfl trivial ?_
      refine v_op hT hC rfl rfl rfl rfl trivial ?_
      refine v_off hC rfl rfl rfl rfl rfl rfl rfl ?_
      refine v_off hC rfl rfl rfl rfl rfl rfl rfl ?_
      refine v_off hC rfl rfl rfl rfl rfl rfl rfl ?_
      iterate 2 refine v_op hT hC rfl rfl rfl rfl trivial ?_
      refine Vc.nil ⟨by kernel_rfl, ?_⟩
      injection h with h
      subst h
      refine m_norm ?_
      apply w_conv hC []
      ·
       exact co
      ·
       rfl
      ·
       decide
      ·
       rfl
    ·
     refine v_off hC rfl rfl rfl rfl hb3 rfl rfl ?_
     refine v_off hC rfl rfl rfl rfl hb3 rfl rfl ?_
     refine v_off hC rfl rfl rfl rfl hb3 rfl rfl ?_
     refine v_pick hC rfl rfl rfl (b := false) hb3 rfl rfl rfl trivial ?_
     refine v_op hT hC rfl rfl rfl rfl trivial ?_
     refine v_off hC rfl rfl rfl rfl rfl rfl rfl ?_
     refine v_off hC rfl rfl rfl rfl rfl rfl rfl ?_
     refine v_off hC rfl rfl rfl rfl rfl rfl rfl ?_
     refine v_off hC rfl rfl rfl rfl rfl rfl rfl ?_
     refine v_off hC rfl rfl rfl rfl rfl rfl rfl ?_
     refine v_off hC rfl rfl rfl rfl rfl rfl rfl ?_
     refine v_off hC rfl rfl rfl rfl rfl rfl rfl ?_
     iterate 2 refine v_op hT hC rfl rfl rfl rfl trivial ?_
     refine v_off hC rfl rfl rfl rfl rfl rfl rfl ?_
     refine v_off hC rfl rfl rfl rfl rfl rfl rfl ?_
     refine v_off hC rfl rfl rfl rfl rfl rfl rfl ?_
     iterate 2 refine v_op hT hC rfl rfl rfl rfl trivial ?_
     refine Vc.nil ⟨by kernel_rfl, ?_⟩
     injection h with h
     subst h
     refine m_norm ?_
     apply w_conv hC []
     ·
      exact co
     ·
      rfl
     ·
      decide
     ·
      rfl
   ·
    refine v_off hC rfl rfl rfl rfl hb2 rfl rfl ?_
    refine v_off hC rfl rfl rfl rfl hb2 rfl rfl ?_
    refine v_off hC rfl rfl rfl rfl hb2 rfl rfl ?_
    refine v_off hC rfl rfl rfl rfl hb2 rfl rfl ?_
    refine v_off hC rfl rfl rfl rfl hb2 rfl rfl ?_
    refine v_pick hC rfl rfl rfl (b := false) hb2 rfl rfl rfl trivial ?_
    refine v_op hT hC rfl rfl rfl rfl trivial ?_
    refine v_off hC rfl rfl rfl rfl rfl rfl rfl ?_
    refine v_off hC rfl rfl rfl rfl rfl rfl rfl ?_
    refine v_off hC rfl rfl rfl rfl rfl rfl rfl ?_
    iterate 2 refine v_op hT hC rfl rfl rfl rfl trivial ?_
    refine v_off hC rfl rfl rfl rfl rfl rfl rfl ?_
    refine v_off hC rfl rfl rfl rfl rfl rfl rfl ?_
    refine v_off hC rfl rfl rfl rfl rfl rfl rfl ?_
    refine v_off hC rfl rfl rfl rfl rfl rfl rfl ?_
    refine v_off hC rfl rfl rfl rfl rfl rfl rfl ?_
    refine v_off hC rfl rfl rfl rfl rfl rfl rfl ?_
    refine v_off hC rfl rfl rfl rfl rfl rfl rfl ?_
    iterate 2 refine v_op hT hC rfl rfl rfl rfl trivial ?_
    refine v_off hC rfl rfl rfl rfl rfl rfl rfl ?_
    refine v_off hC rfl rfl rfl rfl rfl rfl rfl ?_
    refine v_off hC rfl rfl rfl rfl rfl rfl rfl ?_
    iterate 2 refine v_op hT hC rfl rfl rfl rfl trivial ?_
    refine Vc.nil ⟨by kernel_rfl, ?_⟩
    injection h with h
    subst h
    refine m_norm ?_
    apply w_conv hC []
    ·
     exact co
    ·
     rfl
    ·
     decide
    ·
     rfl
  ·
   refine v_off hC rfl rfl rfl rfl hb1 rfl rfl ?_
   refine v_off hC rfl rfl rfl rfl hb1 rfl rfl ?_
   refine v_off hC rfl rfl rfl rfl hb1 rfl rfl ?_
   refine v_pick hC rfl rfl rfl (b := false) hb1 rfl rfl rfl trivial ?_
   refine v_op hT hC rfl rfl rfl rfl trivial ?_
   refine v_off hC rfl rfl rfl rfl rfl rfl rfl ?_
   refine v_off hC rfl rfl rfl rfl rfl rfl rfl ?_
   refine v_off hC rfl rfl rfl rfl rfl rfl rfl ?_
   refine v_off hC rfl rfl rfl rfl rfl rfl rfl ?_
   refine v_off hC rfl rfl rfl rfl rfl rfl rfl ?_
   iterate 2 refine v_op hT hC rfl rfl rfl rfl trivial ?_
   refine v_off hC rfl rfl rfl rfl rfl rfl rfl ?_
   refine v_off hC rfl rfl rfl rfl rfl rfl rfl ?_
   refine v_off hC rfl rfl rfl rfl rfl rfl rfl ?_
   iterate 2 refine v_op hT hC rfl rfl rfl rfl trivial ?_
   refine v_off hC rfl rfl rfl rfl rfl rfl rfl ?_
   refine v_off hC rfl rfl rfl rfl rfl rfl rfl ?_
   refine v_off hC rfl rfl rfl rfl rfl rfl rfl ?_
   refine v_off hC rfl rfl rfl rfl rfl rfl rfl ?_
   refine v_off hC rfl rfl rfl rfl rfl rfl rfl ?_
   refine v_off hC rfl rfl rfl rfl rfl rfl rfl ?_
   refine v_off hC rfl rfl rfl rfl rfl rfl rfl ?_
   iterate 2 refine v_op hT hC rfl rfl rfl rfl trivial ?_
   refine v_off hC rfl rfl rfl rfl rfl rfl rfl ?_
   refine v_off hC rfl rfl rfl rfl rfl rfl rfl ?_
   refine v_off hC rfl rfl rfl rfl rfl rfl rfl ?_
   iterate 2 refine v_op hT hC rfl rfl rfl rfl trivial ?_
   refine Vc.nil ⟨by kernel_rfl, ?_⟩
   injection h with h
   subst h
   refine m_norm ?_
   apply w_conv hC []
   ·
    exact co
   ·
    rfl
   ·
    decide
   ·
    rfl
 refine aw_ret ?_
 injection h with h
 subst h
 exact ends (Weak.refl _) rfl trivial
def spec_l02Fix_res (r : ByteArray) : AV := .sv (.str r)
def spec_l02Fix_obs (r : ByteArray) : Objs := []
theorem spec_l02Fix_ac {p0 : Int} {p1 : Int} {r : ByteArray} (h : spec_l02Fix p0 p1 = some r) : AC Tryz.prog 83 [.sv (.int .i64 p0), .sv (.int .i64 p1)] [] (spec_l02Fix_res r) (spec_l02Fix_obs r) := by
 refine ac_of_body hT Tryz.func83 rfl fun C hC => ?_
 unfold spec_l02Fix at h
 refine s_reg ?_
 refine v_op hT hC rfl rfl rfl rfl trivial ?_
 refine Vc.nil ?_
 refine s_reg ?_
 refine v_op hT hC rfl rfl rfl rfl trivial ?_
 obtain ⟨hq, h⟩ := req_some h
 refine v_op hT hC rfl rfl rfl rfl ⟨hq.1, hq.2.1, hq.2.2, by decide⟩ ?_
 refine v_op hT hC rfl rfl rfl rfl trivial ?_
 refine Vc.nil ?_
 refine s_in ?_
 refine s_reg ?_
 iterate 3 refine v_op hT hC rfl rfl rfl rfl trivial ?_
 refine Vc.nil ?_
 refine live [0, 5, 6] [128] (s' := [_, _, _]) (o' := [_]) rfl rfl ?_
 obtain ⟨v4, hl, h⟩ := bnd_some h
 refine s_loop (fun v2 => ([(0, .sv (.int .i64 v2.1)), (6, .sv (.int .i64 v2.2.1))], [(128, some (.ints .u8 v2.2.2))])) (fun v4 => ([(0, .any), (6, .any)], [(128, some (.ints .u8 v4))])) hl ?_ ?_ ?_
 ·
  try dsimp only
  apply w_conv hC []
  ·
   exact co
  ·
   rfl
  ·
   decide
  ·
   rfl
 ·
  intro v2 s hs
  have h := hs
  unfold spec_l02Fix_l2 at h
  refine s_in ?_
  refine s_reg ?_
  iterate 2 refine v_op hT hC rfl rfl rfl rfl trivial ?_
  refine Vc.nil ?_
  rcases sel_some h with ⟨hb3, h⟩ | ⟨hb3, h⟩
  ·
   refine s_true rfl hb3 ?_
   refine aw_skip ?_
   refine t_norm ?_
   refine s_in ?_
   refine s_block ?_
   refine s_reg ?_
   iterate 3 refine v_op hT hC rfl rfl rfl rfl trivial ?_
   obtain ⟨hq, h⟩ := req_some h
   refine v_op hT hC rfl rfl rfl rfl hq ?_
   iterate 2 refine v_op hT hC rfl rfl rfl rfl trivial ?_
   obtain ⟨hq, h⟩ := req_some h
   refine v_op hT hC rfl rfl rfl rfl hq ?_
   obtain ⟨hq, h⟩ := req_some h
   refine v_op hT hC rfl rfl rfl rfl hq ?_
   refine Vc.nil ?_
   refine aw_region ?_
   refine v_op hT hC rfl rfl rfl rfl trivial ?_
   obtain ⟨hq, h⟩ := req_some h
   refine v_op hT hC rfl rfl rfl rfl hq ?_
   refine v_op hT hC rfl rfl rfl rfl trivial ?_
   refine Vc.nil ?_
   refine b_norm ?_
   refine t_norm ?_
   refine aw_region ?_
   iterate 3 refine v_op hT hC rfl rfl rfl rfl trivial ?_
   refine Vc.nil ?_
   injection h with h
   subst h
   refine r_go ?_
   try dsimp only
   apply w_conv hC []
   ·
    exact co
   ·
    rfl
   ·
    decide
   ·
    rfl
  ·
   refine s_false rfl hb3 ?_
   refine aw_exit ?_
   refine t_exit ?_
   injection h with h
   subst h
   refine r_exit ?_
   refine o_out ?_
   apply w_conv hC []
   ·
    exact co
   ·
    rfl
   ·
    decide
   ·
    rfl
 refine t_norm ?_
 refine s_reg ?_
 iterate 3 refine v_op hT hC rfl rfl rfl rfl trivial ?_
 refine Vc.nil ?_
 refine aw_ret ?_
 injection h with h
 subst h
 exact ends (Weak.refl _) rfl trivial
def spec_HeadRow_res (r : (ByteArray × Bool)) : AV := .tup [.sv (.str r.1), .sv (.bool r.2)]
def spec_HeadRow_obs (r : (ByteArray × Bool)) : Objs := []
theorem spec_HeadRow_ac {p0 : Seq} {p1 : Par} {p2 : Head} {r : (ByteArray × Bool)} (h : spec_HeadRow p0 p1 p2 = some r) : AC Tryz.prog 62 [.agg [.sv (.int .i64 p0.Level), .sv (.int .i64 p0.Bits), .sv (.ints .i64 p0.Cols), .sv (.ints .i64 p0.Rows)], .agg [.sv (.int .i64 p1.Qp), .sv (.bool p1.Large), .sv (.bool p1.Exact), .sv (.bool p1.Confined)], .agg [.sv (.int .i64 p2.Tile), .sv (.int .i64 p2.Frame), .sv (.int .i64 p2.Qp)]] [] (spec_HeadRow_res r) (spec_HeadRow_obs r) := by
 refine ac_of_body hT Tryz.func62 rfl fun C hC => ?_
 unfold spec_HeadRow at h
 refine s_reg ?_
 iterate 5 refine v_op hT hC rfl rfl rfl rfl trivial ?_
 refine Vc.nil ?_
 refine s_in ?_
 refine s_reg ?_
 iterate 3 refine v_op hT hC rfl rfl rfl rfl trivial ?_
 obtain ⟨q1, hq, h⟩ := bnd_some h
 refine v_call hC [] rfl rfl rfl rfl Tryz.call81 (spec_HeadOk_ac hq) rfl (by decide) trivial rfl (.inl rfl) rfl ?_
 refine v_op hT hC rfl rfl rfl rfl trivial ?_
 refine Vc.nil ?_
 rcases sel_some h with ⟨hb1, h⟩ | ⟨hb1, h⟩
 ·
  refine s_true rfl hb1 ?_
  refine s_reg ?_
  iterate 2 refine v_op hT hC rfl rfl rfl rfl trivial ?_
  refine Vc.nil ?_
  refine aw_ret ?_
  refine t_ret ?_
  injection h with h
  subst h
  exact ends (Weak.refl _) rfl trivial
 ·
  refine s_false rfl hb1 ?_
  refine aw_skip ?_
  refine t_norm ?_
  refine s_draw hm ?_
  iterate 2 refine v_op hT hC rfl rfl rfl rfl trivial ?_
  obtain ⟨q2, hq, h⟩ := bnd_some h
  refine v_call hC [] rfl rfl rfl rfl Tryz.call82 (spec_l03Ue_ac hq) rfl (by decide) trivial rfl (.inl rfl) rfl ?_
  iterate 4 refine v_op hT hC rfl rfl rfl rfl trivial ?_
  obtain ⟨q3, hq, h⟩ := bnd_some h
  refine v_call hC [] rfl rfl rfl rfl Tryz.call83 (spec_l02Fix_ac hq) rfl (by decide) trivial rfl (.inl rfl) rfl ?_
  obtain ⟨hq, h⟩ := req_some h
  refine v_op hT hC rfl rfl rfl rfl hq ?_
  iterate 5 refine v_op hT hC rfl rfl rfl rfl trivial ?_
  obtain ⟨q4, hq, h⟩ := bnd_some h
  refine v_call hC [] rfl rfl rfl rfl Tryz.call84 (spec_l03Se_ac hq) rfl (by decide) trivial rfl (.inl rfl) rfl ?_
  obtain ⟨hq, h⟩ := req_some h
  refine v_op hT hC rfl rfl rfl rfl hq ?_
  iterate 2 refine v_op hT hC rfl rfl rfl rfl trivial ?_
  refine Vc.nil ⟨by kernel_rfl, ?_⟩
  refine aw_ret ?_
  injection h with h
  subst h
  exact ends (Weak.refl _) rfl trivial
def spec_l11Runs_res (r : ByteArray) : AV := .sv (.str r)
def spec_l11Runs_obs (r : ByteArray) : Objs := []
theorem spec_l11Runs_ac {p0 : (List Int)} {r : ByteArray} (h : spec_l11Runs p0 = some r) : AC Tryz.prog 113 [.sv (.ints .i64 p0)] [] (spec_l11Runs_res r) (spec_l11Runs_obs r) := by
 refine ac_of_body hT Tryz.func113 rfl fun C hC => ?_
 unfold spec_l11Runs at h
 refine s_reg ?_
 refine v_op hT hC rfl rfl rfl rfl trivial ?_
 refine Vc.nil ?_
 refine s_reg ?_
 refine v_op hT hC rfl rfl rfl rfl trivial ?_
 refine Vc.nil ?_
 refine s_reg ?_
 refine v_op hT hC rfl rfl rfl rfl trivial ?_
 refine Vc.nil ?_
 refine s_reg ?_
 refine v_op hT hC rfl rfl rfl rfl trivial ?_
 refine Vc.nil ?_
 refine s_in ?_
 refine s_reg ?_
 refine v_op hT hC rfl rfl rfl rfl trivial ?_
 refine Vc.nil ?_
 refine live [0, 3, 4, 5, 6] [] (s' := [_, _, _, _, _]) (o' := []) rfl rfl ?_
 obtain ⟨v10, hl, h⟩ := bnd_some h
 refine s_loop (fun v5 => ([(3, .sv (.int .i64 v5.1)), (4, .sv (.int .i64 v5.2.1)), (5, .sv (.str v5.2.2.1)), (6, .sv (.int .i64 v5.2.2.2))], [])) (fun v10 => ([(3, .sv (.int .i64 v10.1)), (5, .sv (.str v10.2)), (0, .any), (4, .any), (6, .any)], [])) hl ?_ ?_ ?_
 ·
  try dsimp only
  apply w_conv hC []
  ·
   exact co
  ·
   rfl
  ·
   decide
  ·
   rfl
 ·
  intro v5 s hs
  have h := hs
  unfold spec_l11Runs_l2 at h
  refine s_in ?_
  refine s_reg ?_
  iterate 4 refine v_op hT hC rfl rfl rfl rfl trivial ?_
  refine Vc.nil ?_
  rcases sel_some h with ⟨hb5, h⟩ | ⟨hb5, h⟩
  ·
   refine s_true rfl hb5 ?_
   refine aw_skip ?_
   refine t_norm ?_
   refine live [0, 3, 4, 5, 6] [] (s' := [_, _, _, _, _]) (o' := []) rfl rfl ?_
   obtain ⟨v11, h1, h⟩ := bnd_some h
   refine aw_to ([(3, .sv (.int .i64 v11.1)), (4, .sv (.int .i64 v11.2.1)), (5, .sv (.str v11.2.2))], []) ?_ ?_
   ·
    have h := h1
    refine s_block ?_
    refine s_in ?_
    refine s_reg ?_
    iterate 2 refine v_op hT hC rfl rfl rfl rfl trivial ?_
    obtain ⟨hq, h⟩ := req_some h
    refine v_op hT hC rfl rfl rfl rfl hq ?_
    iterate 2 refine v_op hT hC rfl rfl rfl rfl trivial ?_
    refine Vc.nil ?_
    rcases sel_some h with ⟨hb6, h⟩ | ⟨hb6, h⟩
    ·
     refine s_true rfl hb6 ?_
     refine s_reg ?_
     iterate 3 refine v_op hT hC rfl rfl rfl rfl trivial ?_
     refine Vc.nil ?_
     refine aw_exit ?_
     refine t_exit ?_
     refine b_exit ?_
     injection h with h
     subst h
     refine m_norm ?_
     try dsimp only
     apply w_conv hC []
     ·
      exact co
     ·
      rfl
     ·
      decide
     ·
      rfl
    ·
     refine s_false rfl hb6 ?_
     refine aw_skip ?_
     refine t_norm ?_
     refine s_reg ?_
     iterate 3 refine v_op hT hC rfl rfl rfl rfl trivial ?_
     refine Vc.nil ?_
     refine s_draw hm ?_
     iterate 2 refine v_op hT hC rfl rfl rfl rfl trivial ?_
     obtain ⟨q12, hq, h⟩ := bnd_some h
     refine v_call hC [] rfl rfl rfl rfl Tryz.call82 (spec_l03Ue_ac hq) rfl (by decide) trivial rfl (.inl rfl) rfl ?_
     obtain ⟨hq, h⟩ := req_some h
     refine v_op hT hC rfl rfl rfl rfl hq ?_
     iterate 2 refine v_op hT hC rfl rfl rfl rfl trivial ?_
     obtain ⟨hq, h⟩ := req_some h
     refine v_op hT hC rfl rfl rfl rfl hq ?_
     refine v_op hT hC rfl rfl rfl rfl trivial ?_
     obtain ⟨q13, hq, h⟩ := bnd_some h
     refine v_call hC [] rfl rfl rfl rfl Tryz.call84 (spec_l03Se_ac hq) rfl (by decide) trivial rfl (.inl rfl) rfl ?_
     obtain ⟨hq, h⟩ := req_some h
     refine v_op hT hC rfl rfl rfl rfl hq ?_
     refine v_op hT hC rfl rfl rfl rfl trivial ?_
     refine Vc.nil ⟨by kernel_rfl, ?_⟩
     refine aw_region ?_
     refine v_op hT hC rfl rfl rfl rfl trivial ?_
     refine Vc.nil ?_
     refine b_norm ?_
     injection h with h
     subst h
     refine m_norm ?_
     try dsimp only
     apply w_conv hC []
     ·
      exact co
     ·
      rfl
     ·
      decide
     ·
      rfl
   refine aw_region ?_
   iterate 3 refine v_op hT hC rfl rfl rfl rfl trivial ?_
   refine Vc.nil ?_
   injection h with h
   subst h
   refine r_go ?_
   try dsimp only
   apply w_conv hC []
   ·
    exact co
   ·
    rfl
   ·
    decide
   ·
    rfl
  ·
   refine s_false rfl hb5 ?_
   refine aw_exit ?_
   refine t_exit ?_
   injection h with h
   subst h
   refine r_exit ?_
   refine o_out ?_
   try dsimp only
   apply w_conv hC []
   ·
    exact co
   ·
    rfl
   ·
    decide
   ·
    rfl
 refine t_norm ?_
 refine s_reg ?_
 refine v_op hT hC rfl rfl rfl rfl trivial ?_
 obtain ⟨q15, hq, h⟩ := bnd_some h
 refine v_call hC [] rfl rfl rfl rfl Tryz.call82 (spec_l03Ue_ac hq) rfl (by decide) trivial rfl (.inl rfl) rfl ?_
 refine v_op hT hC rfl rfl rfl rfl trivial ?_
 obtain ⟨hq, h⟩ := req_some h
 refine v_op hT hC rfl rfl rfl rfl hq ?_
 refine v_op hT hC rfl rfl rfl rfl trivial ?_
 refine Vc.nil ?_
 refine aw_ret ?_
 injection h with h
 subst h
 exact ends (Weak.refl _) rfl trivial
def spec_l14Row_res (r : ByteArray) : AV := .sv (.str r)
def spec_l14Row_obs (r : ByteArray) : Objs := []
theorem spec_l14Row_ac {p0 : (List Int)} {p1 : Cond} {r : ByteArray} (h : spec_l14Row p0 p1 = some r) : AC Tryz.prog 98 [.sv (.ints .i64 p0), .agg [.sv (.bool p1.Key), .sv (.int .i64 p1.Qp), .sv (.bool p1.Large), .sv (.bool p1.Exact)]] [] (spec_l14Row_res r) (spec_l14Row_obs r) := by
 refine ac_of_body hT Tryz.func98 rfl fun C hC => ?_
 unfold spec_l14Row at h
 refine s_reg ?_
 iterate 2 refine v_op hT hC rfl rfl rfl rfl trivial ?_
 refine Vc.nil ?_
 refine s_in ?_
 refine live [0, 3] [48] (s' := [_, _]) (o' := [_]) rfl rfl ?_
 obtain ⟨v1, h1, h⟩ := bnd_some h
 refine aw_to ([(10, .sv (.bool v1)), (3, .any)], [(48, none)]) ?_ ?_
 ·
  have h := h1
  refine aw_region ?_
  iterate 3 refine v_op hT hC rfl rfl rfl rfl trivial ?_
  rcases sel_some h with ⟨hb1, h⟩ | ⟨hb1, h⟩
  ·
   refine v_off hC rfl rfl rfl rfl hb1 rfl rfl ?_
   refine v_off hC rfl rfl rfl rfl hb1 rfl rfl ?_
   refine v_pick hC rfl rfl rfl (b := true) hb1 rfl rfl rfl trivial ?_
   refine Vc.nil ?_
   injection h with h
   subst h
   refine m_norm ?_
   apply w_conv hC []
   ·
    exact co
   ·
    rfl
   ·
    decide
   ·
    rfl
  ·
   iterate 2 refine v_on hT hC rfl rfl rfl rfl hb1 rfl rfl rfl trivial ?_
   refine v_pick hC rfl rfl rfl (b := false) hb1 rfl rfl rfl trivial ?_
   refine Vc.nil ?_
   injection h with h
   subst h
   refine m_norm ?_
   apply w_conv hC []
   ·
    exact co
   ·
    rfl
   ·
    decide
   ·
    rfl
 rcases sel_some h with ⟨hb2, h⟩ | ⟨hb2, h⟩
 ·
  refine s_true rfl hb2 ?_
  refine s_reg ?_
  refine v_op hT hC rfl rfl rfl rfl trivial ?_
  obtain ⟨q2, hq, h⟩ := bnd_some h
  refine v_call hC [] rfl rfl rfl rfl Tryz.call113 (spec_l11Runs_ac hq) rfl (by decide) trivial rfl (.inl rfl) rfl ?_
  refine v_op hT hC rfl rfl rfl rfl trivial ?_
  refine Vc.nil ?_
  refine aw_ret ?_
  refine t_ret ?_
  injection h with h
  subst h
  exact ends (Weak.refl _) rfl trivial
 ·
  refine s_false rfl hb2 ?_
  refine aw_skip ?_
  refine t_norm ?_
  refine s_draw hm ?_
  refine v_op hT hC rfl rfl rfl rfl trivial ?_
  obtain ⟨hq, h⟩ := req_some h
  refine v_op hT hC rfl rfl rfl rfl hq ?_
  obtain ⟨q3, hq, h⟩ := bnd_some h
  refine v_call hC [] rfl rfl rfl rfl Tryz.call113 (spec_l11Runs_ac hq) rfl (by decide) trivial rfl (.inl rfl) rfl ?_
  refine v_op hT hC rfl rfl rfl rfl trivial ?_
  obtain ⟨hq, h⟩ := req_some h
  refine v_op hT hC rfl rfl rfl rfl hq ?_
  obtain ⟨q4, hq, h⟩ := bnd_some h
  refine v_call hC [] rfl rfl rfl rfl Tryz.call113 (spec_l11Runs_ac hq) rfl (by decide) trivial rfl (.inl rfl) rfl ?_
  obtain ⟨hq, h⟩ := req_some h
  refine v_op hT hC rfl rfl rfl rfl hq ?_
  refine v_op hT hC rfl rfl rfl rfl trivial ?_
  obtain ⟨hq, h⟩ := req_some h
  refine v_op hT hC rfl rfl rfl rfl hq ?_
  obtain ⟨q5, hq, h⟩ := bnd_some h
  refine v_call hC [] rfl rfl rfl rfl Tryz.call113 (spec_l11Runs_ac hq) rfl (by decide) trivial rfl (.inl rfl) rfl ?_
  obtain ⟨hq, h⟩ := req_some h
  refine v_op hT hC rfl rfl rfl rfl hq ?_
  refine v_op hT hC rfl rfl rfl rfl trivial ?_
  obtain ⟨hq, h⟩ := req_some h
  refine v_op hT hC rfl rfl rfl rfl hq ?_
  obtain ⟨q6, hq, h⟩ := bnd_some h
  refine v_call hC [] rfl rfl rfl rfl Tryz.call113 (spec_l11Runs_ac hq) rfl (by decide) trivial rfl (.inl rfl) rfl ?_
  obtain ⟨hq, h⟩ := req_some h
  refine v_op hT hC rfl rfl rfl rfl hq ?_
  refine v_op hT hC rfl rfl rfl rfl trivial ?_
  refine Vc.nil ⟨by kernel_rfl, ?_⟩
  refine aw_ret ?_
  injection h with h
  subst h
  exact ends (Weak.refl _) rfl trivial
def spec_l15Row_res (r : ByteArray) : AV := .sv (.str r)
def spec_l15Row_obs (r : ByteArray) : Objs := []
theorem spec_l15Row_ac {p0 : Square} {p1 : Cond} {r : ByteArray} (h : spec_l15Row p0 p1 = some r) : AC Tryz.prog 85 [.agg [.sv (.int .i64 p0.Kind), .sv (.int .i64 p0.Mode), .sv (.int .i64 p0.Dx), .sv (.int .i64 p0.Dy), .sv (.ints .i64 p0.Levels)], .agg [.sv (.bool p1.Key), .sv (.int .i64 p1.Qp), .sv (.bool p1.Large), .sv (.bool p1.Exact)]] [] (spec_l15Row_res r) (spec_l15Row_obs r) := by
 refine ac_of_body hT Tryz.func85 rfl fun C hC => ?_
 unfold spec_l15Row at h
 refine s_reg ?_
 iterate 3 refine v_op hT hC rfl rfl rfl rfl trivial ?_
 refine Vc.nil ?_
 refine s_reg ?_
 refine v_op hT hC rfl rfl rfl rfl trivial ?_
 refine Vc.nil ?_
 refine live [2, 3, 5] [32, 48] (s' := [_, _, _]) (o' := [_, _]) rfl rfl ?_
 obtain ⟨v1, h1, h⟩ := bnd_some h
 refine aw_to ([(5, .sv (.str v1))], []) ?_ ?_
 ·
  have h := h1
  refine s_reg ?_
  iterate 3 refine v_op hT hC rfl rfl rfl rfl trivial ?_
  refine Vc.nil ?_
  rcases sel_some h with ⟨hb1, h⟩ | ⟨hb1, h⟩
  ·
   refine s_true rfl hb1 ?_
   refine aw_region ?_
   iterate 2 refine v_op hT hC rfl rfl rfl rfl trivial ?_
   obtain ⟨q2, hq, h⟩ := bnd_some h
   refine v_call hC [] rfl rfl rfl rfl Tryz.call82 (spec_l03Ue_ac hq) rfl (by decide) trivial rfl (.inl rfl) rfl ?_
   refine v_op hT hC rfl rfl rfl rfl trivial ?_
   refine Vc.nil ?_
   injection h with h
   subst h
   refine m_norm ?_
   apply w_conv hC []
   ·
    exact co
   ·
    rfl
   ·
    decide
   ·
    rfl
  ·
   refine s_false rfl hb1 ?_
   refine aw_skip ?_
   injection h with h
   subst h
   refine m_norm ?_
   apply w_conv hC []
   ·
    exact co
   ·
    rfl
   ·
    decide
   ·
    rfl
 refine s_in ?_
 refine s_reg ?_
 iterate 2 refine v_op hT hC rfl rfl rfl rfl trivial ?_
 refine Vc.nil ?_
 refine s_block ?_
 refine s_reg ?_
 iterate 2 refine v_op hT hC rfl rfl rfl rfl trivial ?_
 refine Vc.nil ?_
 rcases sel_some h with ⟨hb2, h⟩ | ⟨hb2, h⟩
 ·
  refine s_true rfl hb2 ?_
  refine s_draw hm ?_
  iterate 3 refine v_op hT hC rfl rfl rfl rfl trivial ?_
  obtain ⟨q3, hq, h⟩ := bnd_some h
  refine v_call hC [] rfl rfl rfl rfl Tryz.call84 (spec_l03Se_ac hq) rfl (by decide) trivial rfl (.inl rfl) rfl ?_
  obtain ⟨hq, h⟩ := req_some h
  refine v_op hT hC rfl rfl rfl rfl hq ?_
  iterate 2 refine v_op hT hC rfl rfl rfl rfl trivial ?_
  obtain ⟨q4, hq, h⟩ := bnd_some h
  refine v_call hC [] rfl rfl rfl rfl Tryz.call84 (spec_l03Se_ac hq) rfl (by decide) trivial rfl (.inl rfl) rfl ?_
  obtain ⟨hq, h⟩ := req_some h
  refine v_op hT hC rfl rfl rfl rfl hq ?_
  iterate 3 refine v_op hT hC rfl rfl rfl rfl trivial ?_
  obtain ⟨q5, hq, h⟩ := bnd_some h
  refine v_call hC [] rfl rfl rfl rfl Tryz.call98 (spec_l14Row_ac hq) rfl (by decide) trivial rfl (.inl rfl) rfl ?_
  obtain ⟨hq, h⟩ := req_some h
  refine v_op hT hC rfl rfl rfl rfl hq ?_
  refine v_op hT hC rfl rfl rfl rfl trivial ?_
  refine Vc.nil ⟨by kernel_rfl, ?_⟩
  refine aw_ret ?_
  refine b_ret ?_
  refine t_ret ?_
  injection h with h
  subst h
  exact ends (Weak.refl _) rfl trivial
 ·
  refine s_false rfl hb2 ?_
  refine s_reg ?_
  iterate 2 refine v_op hT hC rfl rfl rfl rfl trivial ?_
  refine Vc.nil ?_
  rcases sel_some h with ⟨hb3, h⟩ | ⟨hb3, h⟩
  ·
   refine s_true rfl hb3 ?_
   refine s_draw hm ?_
   iterate 3 refine v_op hT hC rfl rfl rfl rfl trivial ?_
   obtain ⟨q6, hq, h⟩ := bnd_some h
   refine v_call hC [] rfl rfl rfl rfl Tryz.call82 (spec_l03Ue_ac hq) rfl (by decide) trivial rfl (.inl rfl) rfl ?_
   obtain ⟨hq, h⟩ := req_some h
   refine v_op hT hC rfl rfl rfl rfl hq ?_
   iterate 3 refine v_op hT hC rfl rfl rfl rfl trivial ?_
   obtain ⟨q7, hq, h⟩ := bnd_some h
   refine v_call hC [] rfl rfl rfl rfl Tryz.call98 (spec_l14Row_ac hq) rfl (by decide) trivial rfl (.inl rfl) rfl ?_
   obtain ⟨hq, h⟩ := req_some h
   refine v_op hT hC rfl rfl rfl rfl hq ?_
   refine v_op hT hC rfl rfl rfl rfl trivial ?_
   refine Vc.nil ⟨by kernel_rfl, ?_⟩
   refine aw_ret ?_
   refine b_ret ?_
   refine t_ret ?_
   injection h with h
   subst h
   exact ends (Weak.refl _) rfl trivial
  ·
   refine s_false rfl hb3 ?_
   refine aw_skip ?_
   refine b_norm ?_
   refine t_norm ?_
   refine s_reg ?_
   iterate 2 refine v_op hT hC rfl rfl rfl rfl trivial ?_
   refine Vc.nil ?_
   refine aw_ret ?_
   injection h with h
   subst h
   exact ends (Weak.refl _) rfl trivial
def spec_l16Row_res (r : ByteArray) : AV := .sv (.str r)
def spec_l16Row_obs (r : ByteArray) : Objs := []
theorem spec_l16Row_ac {p0 : (List Square)} {p1 : Cond} {r : ByteArray} (h : spec_l16Row p0 p1 = some r) : AC Tryz.prog 63 [.sv (cSquare.sv p0), .agg [.sv (.bool p1.Key), .sv (.int .i64 p1.Qp), .sv (.bool p1.Large), .sv (.bool p1.Exact)]] [] (spec_l16Row_res r) (spec_l16Row_obs r) := by
 refine ac_of_body hT Tryz.func63 rfl fun C hC => ?_
 unfold spec_l16Row at h
 refine s_reg ?_
 iterate 2 refine v_op hT hC rfl rfl rfl rfl trivial ?_
 refine Vc.nil ?_
 refine s_reg ?_
 iterate 2 refine v_op hT hC rfl rfl rfl rfl trivial ?_
 refine Vc.nil ?_
 refine s_in ?_
 refine s_reg ?_
 refine v_op hT hC rfl rfl rfl rfl trivial ?_
 refine Vc.nil ?_
 refine live [0, 3, 5, 6] [48, 112] (s' := [_, _, _, _]) (o' := [_, _]) rfl rfl ?_
 obtain ⟨v6, hl, h⟩ := bnd_some h
 refine s_loop (fun v3 => ([(6, .sv (.int .i64 v3.1))], [(112, some (.ints .u8 v3.2))])) (fun v6 => ([(0, .any), (3, .any), (6, .any)], [(112, some (.ints .u8 v6)), (48, none)])) hl ?_ ?_ ?_
 ·
  try dsimp only
  apply w_conv hC []
  ·
   exact co
  ·
   rfl
  ·
   decide
  ·
   rfl
 ·
  intro v3 s hs
  have h := hs
  unfold spec_l16Row_l2 at h
  refine s_in ?_
  refine s_reg ?_
  iterate 4 refine v_op hT hC rfl rfl rfl rfl trivial ?_
  refine Vc.nil ?_
  rcases sel_some h with ⟨hb3, h⟩ | ⟨hb3, h⟩
  ·
   refine s_true rfl hb3 ?_
   refine aw_skip ?_
   refine t_norm ?_
   refine s_in ?_
   refine s_block ?_
   refine aw_draw hm ?_
   iterate 3 refine v_op hT hC rfl rfl rfl rfl trivial ?_
   obtain ⟨hq, h⟩ := req_some h
   refine v_op hT hC rfl rfl rfl rfl hq ?_
   iterate 2 refine v_op hT hC rfl rfl rfl rfl trivial ?_
   obtain ⟨q7, hq, h⟩ := bnd_some h
   refine v_call hC [] rfl rfl rfl rfl Tryz.call85 (spec_l15Row_ac hq) rfl (by decide) trivial rfl (.inl rfl) rfl ?_
   obtain ⟨hq, h⟩ := req_some h
   refine v_op hT hC rfl rfl rfl rfl ⟨trivial, hq⟩ ?_
   refine v_op hT hC rfl rfl rfl rfl trivial ?_
   refine Vc.nil ⟨by kernel_rfl, ?_⟩
   refine b_norm ?_
   refine t_norm ?_
   refine aw_region ?_
   iterate 3 refine v_op hT hC rfl rfl rfl rfl trivial ?_
   refine Vc.nil ?_
   injection h with h
   subst h
   refine r_go ?_
   try dsimp only
   apply w_conv hC [(112, 336)]
   ·
    exact co
   ·
    rfl
   ·
    decide
   ·
    rfl
  ·
   refine s_false rfl hb3 ?_
   refine aw_exit ?_
   refine t_exit ?_
   injection h with h
   subst h
   refine r_exit ?_
   refine o_out ?_
   apply w_conv hC []
   ·
    exact co
   ·
    rfl
   ·
    decide
   ·
    rfl
 refine t_norm ?_
 refine s_reg ?_
 iterate 3 refine v_op hT hC rfl rfl rfl rfl trivial ?_
 refine Vc.nil ?_
 refine aw_ret ?_
 injection h with h
 subst h
 exact ends (Weak.refl _) rfl trivial
def spec_l05List_res (r : ByteArray) : AV := .sv (.str r)
def spec_l05List_obs (r : ByteArray) : Objs := []
theorem spec_l05List_ac {p0 : (List Int)} {r : ByteArray} (h : spec_l05List p0 = some r) : AC Tryz.prog 99 [.sv (.ints .i64 p0)] [] (spec_l05List_res r) (spec_l05List_obs r) := by
 refine ac_of_body hT Tryz.func99 rfl fun C hC => ?_
 unfold spec_l05List at h
 refine s_reg ?_
 refine v_op hT hC rfl rfl rfl rfl trivial ?_
 refine Vc.nil ?_
 refine s_reg ?_
 iterate 2 refine v_op hT hC rfl rfl rfl rfl trivial ?_
 obtain ⟨q1, hq, h⟩ := bnd_some h
 refine v_call hC [] rfl rfl rfl rfl Tryz.call82 (spec_l03Ue_ac hq) rfl (by decide) trivial rfl (.inl rfl) rfl ?_
 refine v_op hT hC rfl rfl rfl rfl trivial ?_
 refine Vc.nil ?_
 refine s_in ?_
 refine s_reg ?_
 refine v_op hT hC rfl rfl rfl rfl trivial ?_
 refine Vc.nil ?_
 refine live [0, 3, 4] [] (s' := [_, _, _]) (o' := []) rfl rfl ?_
 obtain ⟨v7, hl, h⟩ := bnd_some h
 refine s_loop (fun v4 => ([(3, .sv (.str v4.1)), (4, .sv (.int .i64 v4.2))], [])) (fun v7 => ([(3, .sv (.str v7)), (0, .any), (4, .any)], [])) hl ?_ ?_ ?_
 ·
  try dsimp only
  apply w_conv hC []
  ·
   exact co
  ·
   rfl
  ·
   decide
  ·
   rfl
 ·
  intro v4 s hs
  have h := hs
  unfold spec_l05List_l2 at h
  refine s_in ?_
  refine s_reg ?_
  iterate 4 refine v_op hT hC rfl rfl rfl rfl trivial ?_
  refine Vc.nil ?_
  rcases sel_some h with ⟨hb3, h⟩ | ⟨hb3, h⟩
  ·
   refine s_true rfl hb3 ?_
   refine aw_skip ?_
   refine t_norm ?_
   refine s_in ?_
   refine s_block ?_
   refine aw_region ?_
   iterate 3 refine v_op hT hC rfl rfl rfl rfl trivial ?_
   obtain ⟨hq, h⟩ := req_some h
   refine v_op hT hC rfl rfl rfl rfl hq ?_
   refine v_op hT hC rfl rfl rfl rfl trivial ?_
   obtain ⟨q8, hq, h⟩ := bnd_some h
   refine v_call hC [] rfl rfl rfl rfl Tryz.call82 (spec_l03Ue_ac hq) rfl (by decide) trivial rfl (.inl rfl) rfl ?_
   obtain ⟨hq, h⟩ := req_some h
   refine v_op hT hC rfl rfl rfl rfl hq ?_
   refine v_op hT hC rfl rfl rfl rfl trivial ?_
   refine Vc.nil ?_
   refine b_norm ?_
   refine t_norm ?_
   refine aw_region ?_
   iterate 3 refine v_op hT hC rfl rfl rfl rfl trivial ?_
   refine Vc.nil ?_
   injection h with h
   subst h
   refine r_go ?_
   try dsimp only
   apply w_conv hC []
   ·
    exact co
   ·
    rfl
   ·
    decide
   ·
    rfl
  ·
   refine s_false rfl hb3 ?_
   refine aw_exit ?_
   refine t_exit ?_
   injection h with h
   subst h
   refine r_exit ?_
   refine o_out ?_
   apply w_conv hC []
   ·
    exact co
   ·
    rfl
   ·
    decide
   ·
    rfl
 refine t_norm ?_
 refine s_reg ?_
 iterate 2 refine v_op hT hC rfl rfl rfl rfl trivial ?_
 refine Vc.nil ?_
 refine aw_ret ?_
 injection h with h
 subst h
 exact ends (Weak.refl _) rfl trivial
def spec_l05Seq_res (r : ByteArray) : AV := .sv (.str r)
def spec_l05Seq_obs (r : ByteArray) : Objs := []
theorem spec_l05Seq_ac {p0 : Seq} {r : ByteArray} (h : spec_l05Seq p0 = some r) : AC Tryz.prog 86 [.agg [.sv (.int .i64 p0.Level), .sv (.int .i64 p0.Bits), .sv (.ints .i64 p0.Cols), .sv (.ints .i64 p0.Rows)]] [] (spec_l05Seq_res r) (spec_l05Seq_obs r) := by
 refine ac_of_body hT Tryz.func86 rfl fun C hC => ?_
 unfold spec_l05Seq at h
 refine s_reg ?_
 iterate 2 refine v_op hT hC rfl rfl rfl rfl trivial ?_
 refine Vc.nil ?_
 refine s_draw hm ?_
 iterate 2 refine v_op hT hC rfl rfl rfl rfl trivial ?_
 obtain ⟨q1, hq, h⟩ := bnd_some h
 refine v_call hC [] rfl rfl rfl rfl Tryz.call82 (spec_l03Ue_ac hq) rfl (by decide) trivial rfl (.inl rfl) rfl ?_
 iterate 2 refine v_op hT hC rfl rfl rfl rfl trivial ?_
 obtain ⟨q2, hq, h⟩ := bnd_some h
 refine v_call hC [] rfl rfl rfl rfl Tryz.call83 (spec_l02Fix_ac hq) rfl (by decide) trivial rfl (.inl rfl) rfl ?_
 obtain ⟨hq, h⟩ := req_some h
 refine v_op hT hC rfl rfl rfl rfl hq ?_
 iterate 2 refine v_op hT hC rfl rfl rfl rfl trivial ?_
 obtain ⟨q3, hq, h⟩ := bnd_some h
 refine v_call hC [] rfl rfl rfl rfl Tryz.call99 (spec_l05List_ac hq) rfl (by decide) trivial rfl (.inl rfl) rfl ?_
 obtain ⟨hq, h⟩ := req_some h
 refine v_op hT hC rfl rfl rfl rfl hq ?_
 iterate 2 refine v_op hT hC rfl rfl rfl rfl trivial ?_
 obtain ⟨q4, hq, h⟩ := bnd_some h
 refine v_call hC [] rfl rfl rfl rfl Tryz.call99 (spec_l05List_ac hq) rfl (by decide) trivial rfl (.inl rfl) rfl ?_
 obtain ⟨hq, h⟩ := req_some h
 refine v_op hT hC rfl rfl rfl rfl hq ?_
 refine v_op hT hC rfl rfl rfl rfl trivial ?_
 refine Vc.nil ⟨by kernel_rfl, ?_⟩
 refine aw_ret ?_
 injection h with h
 subst h
 exact ends (Weak.refl _) rfl trivial
def spec_l07Kind_res (r : Bool) : AV := .sv (.bool r)
def spec_l07Kind_obs (r : Bool) : Objs := []
theorem spec_l07Kind_ac {p0 : Int} {r : Bool} (h : spec_l07Kind p0 = some r) : AC Tryz.prog 88 [.sv (.int .i64 p0)] [] (spec_l07Kind_res r) (spec_l07Kind_obs r) := by
 refine ac_of_body hT Tryz.func88 rfl fun C hC => ?_
 unfold spec_l07Kind at h
 refine s_reg ?_
 refine v_op hT hC rfl rfl rfl rfl trivial ?_
 refine Vc.nil ?_
 refine live [0, 2] [] (s' := [_, _]) (o' := []) rfl rfl ?_
 obtain ⟨v1, h1, h⟩ := bnd_some h
 refine aw_to ([(2, .sv (.bool v1)), (0, .any)], []) ?_ ?_
 ·
  have h := h1
  refine aw_region ?_
  iterate 3 refine v_op hT hC rfl rfl rfl rfl trivial ?_
  rcases sel_some h with ⟨hb1, h⟩ | ⟨hb1, h⟩
  ·
   refine v_off hC rfl rfl rfl rfl hb1 rfl rfl ?_
   refine v_off hC rfl rfl rfl rfl hb1 rfl rfl ?_
   refine v_pick hC rfl rfl rfl (b := true) hb1 rfl rfl rfl trivial ?_
   refine v_op hT hC rfl rfl rfl rfl trivial ?_
   refine v_off hC rfl rfl rfl rfl rfl rfl rfl ?_
   refine v_off hC rfl rfl rfl rfl rfl rfl rfl ?_
   iterate 2 refine v_op hT hC rfl rfl rfl rfl trivial ?_
   refine v_off hC rfl rfl rfl rfl rfl rfl rfl ?_
   refine v_off hC rfl rfl rfl rfl rfl rfl rfl ?_
   iterate 2 refine v_op hT hC rfl rfl rfl rfl trivial ?_
   refine Vc.nil ?_
   injection h with h
   subst h
   refine m_norm ?_
   apply w_conv hC []
   ·
    exact co
   ·
    rfl
   ·
    decide
   ·
    rfl
  ·
   iterate 2 refine v_on hT hC rfl rfl rfl rfl hb1 rfl rfl rfl trivial ?_
   refine v_pick hC rfl rfl rfl (b := false) hb1 rfl rfl rfl trivial ?_
   refine v_op hT hC rfl rfl rfl rfl trivial ?_
   rcases sel_some h with ⟨hb2, h⟩ | ⟨hb2, h⟩
   ·
    refine v_off hC rfl rfl rfl rfl hb2 rfl rfl ?_
    refine v_off hC rfl rfl rfl rfl hb2 rfl rfl ?_
    refine v_pick hC rfl rfl rfl (b := true) hb2 rfl rfl rfl trivial ?_
    refine v_op hT hC rfl rfl rfl rfl trivial ?_
    refine v_off hC rfl rfl rfl rfl rfl rfl rfl ?_
    refine v_off hC rfl rfl rfl rfl rfl rfl rfl ?_
    iterate 2 refine v_op hT hC rfl rfl rfl rfl trivial ?_
    refine Vc.nil ?_
    injection h with h
    subst h
    refine m_norm ?_
    apply w_conv hC []
    ·
     exact co
    ·
     rfl
    ·
     decide
    ·
     rfl
   ·
    iterate 2 refine v_on hT hC rfl rfl rfl rfl hb2 rfl rfl rfl trivial ?_
    refine v_pick hC rfl rfl rfl (b := false) hb2 rfl rfl rfl trivial ?_
    refine v_op hT hC rfl rfl rfl rfl trivial ?_
    rcases sel_some h with ⟨hb3, h⟩ | ⟨hb3, h⟩
    ·
     refine v_off hC rfl rfl rfl rfl hb3 rfl rfl ?_
     refine v_off hC rfl rfl rfl rfl hb3 rfl rfl ?_
     refine v_pick hC rfl rfl rfl (b := true) hb3 rfl rfl rfl trivial ?_
     refine v_op hT hC rfl rfl rfl rfl trivial ?_
     refine Vc.nil ?_
     injection h with h
     subst h
     refine m_norm ?_
     apply w_conv hC []
     ·
      exact co
     ·
      rfl
     ·
      decide
     ·
      rfl
    ·
     iterate 2 refine v_on hT hC rfl rfl rfl rfl hb3 rfl rfl rfl trivial ?_
     refine v_pick hC rfl rfl rfl (b := false) hb3 rfl rfl rfl trivial ?_
     refine v_op hT hC rfl rfl rfl rfl trivial ?_
     refine Vc.nil ?_
     injection h with h
     subst h
     refine m_norm ?_
     apply w_conv hC []
     ·
      exact co
     ·
      rfl
     ·
      decide
     ·
      rfl
 refine aw_ret ?_
 injection h with h
 subst h
 exact ends (Weak.refl _) rfl trivial
def spec_l02Row_res (r : Bool) : AV := .sv (.bool r)
def spec_l02Row_obs (r : Bool) : Objs := []
theorem spec_l02Row_ac {p0 : ByteArray} {r : Bool} (h : spec_l02Row p0 = some r) : AC Tryz.prog 101 [.sv (.str p0)] [] (spec_l02Row_res r) (spec_l02Row_obs r) := by
 refine ac_of_body hT Tryz.func101 rfl fun C hC => ?_
 unfold spec_l02Row at h
 refine s_reg ?_
 refine v_op hT hC rfl rfl rfl rfl trivial ?_
 refine Vc.nil ?_
 refine s_in ?_
 refine s_reg ?_
 refine v_op hT hC rfl rfl rfl rfl trivial ?_
 refine Vc.nil ?_
 refine live [0, 3] [] (s' := [_, _]) (o' := []) rfl rfl ?_
 obtain ⟨o8, hl, h⟩ := bnd_some h
 refine s_loopR (fun v3 => ([(3, .sv (.int .i64 v3))], [])) (fun v6 => ([(0, .any), (3, .any)], [])) (fun r => EndsA C T Tryz.f101.results.toList (spec_l02Row_res r) (spec_l02Row_obs r)) hl ?_ ?_ ?_ ?_
 ·
  apply w_conv hC []
  ·
   exact co
  ·
   rfl
  ·
   decide
  ·
   rfl
 ·
  intro v3 s hs
  have h := hs
  unfold spec_l02Row_l2 at h
  refine s_in ?_
  refine s_reg ?_
  iterate 4 refine v_op hT hC rfl rfl rfl rfl trivial ?_
  refine Vc.nil ?_
  rcases sel_some h with ⟨hb7, h⟩ | ⟨hb7, h⟩
  ·
   refine s_true rfl hb7 ?_
   refine aw_skip ?_
   refine t_norm ?_
   refine s_in ?_
   refine s_block ?_
   refine live [0, 3] [] (s' := [_, _]) (o' := []) rfl rfl ?_
   obtain ⟨v7, h1, h⟩ := bnd_some h
   refine aw_to ([(19, .sv (.bool v7))], []) ?_ ?_
   ·
    have h := h1
    refine aw_region ?_
    iterate 2 refine v_op hT hC rfl rfl rfl rfl trivial ?_
    obtain ⟨hq, h⟩ := req_some h
    refine v_op hT hC rfl rfl rfl rfl hq ?_
    iterate 2 refine v_op hT hC rfl rfl rfl rfl trivial ?_
    rcases sel_some h with ⟨hb8, h⟩ | ⟨hb8, h⟩
    ·
     iterate 2 refine v_on hT hC rfl rfl rfl rfl hb8 rfl rfl rfl trivial ?_
     obtain ⟨hq, h⟩ := req_some h
     refine v_on hT hC rfl rfl rfl rfl hb8 rfl rfl rfl hq ?_
     refine v_on hT hC rfl rfl rfl rfl hb8 rfl rfl rfl trivial ?_
     refine v_pick hC rfl rfl rfl (b := true) hb8 rfl rfl rfl trivial ?_
     refine Vc.nil ?_
     injection h with h
     subst h
     refine m_norm ?_
     apply w_conv hC []
     ·
      exact co
     ·
      rfl
     ·
      decide
     ·
      rfl
    ·
     refine v_off hC rfl rfl rfl rfl hb8 rfl rfl ?_
     refine v_off hC rfl rfl rfl rfl hb8 rfl rfl ?_
     refine v_off hC rfl rfl rfl rfl hb8 rfl rfl ?_
     refine v_off hC rfl rfl rfl rfl hb8 rfl rfl ?_
     refine v_pick hC rfl rfl rfl (b := false) hb8 rfl rfl rfl trivial ?_
     refine Vc.nil ?_
     injection h with h
     subst h
     refine m_norm ?_
     apply w_conv hC []
     ·
      exact co
     ·
      rfl
     ·
      decide
     ·
      rfl
   rcases sel_some h with ⟨hb9, h⟩ | ⟨hb9, h⟩
   ·
    refine s_true rfl hb9 ?_
    refine s_reg ?_
    refine v_op hT hC rfl rfl rfl rfl trivial ?_
    refine Vc.nil ?_
    refine aw_ret ?_
    refine b_ret ?_
    refine t_ret ?_
    injection h with h
    subst h
    refine r_ret ?_
    refine o_ret ?_
    exact ends (Weak.refl _) rfl trivial
   ·
    refine s_false rfl hb9 ?_
    refine aw_skip ?_
    refine b_norm ?_
    refine t_norm ?_
    refine aw_region ?_
    iterate 3 refine v_op hT hC rfl rfl rfl rfl trivial ?_
    refine Vc.nil ?_
    injection h with h
    subst h
    refine r_go ?_
    apply w_conv hC []
    ·
     exact co
    ·
     rfl
    ·
     decide
    ·
     rfl
  ·
   refine s_false rfl hb7 ?_
   refine aw_exit ?_
   refine t_exit ?_
   injection h with h
   subst h
   refine r_exit ?_
   refine o_both ?_
   apply w_conv hC []
   ·
    exact co
   ·
    rfl
   ·
    decide
   ·
    rfl
 ·
  intro v6 e
  subst e
  refine t_norm ?_
  refine s_reg ?_
  refine v_op hT hC rfl rfl rfl rfl trivial ?_
  refine Vc.nil ?_
  refine aw_ret ?_
  injection h with h
  subst h
  exact ends (Weak.refl _) rfl trivial
 ·
  intro r' σ' e hE
  subst e
  injection h with h
  subst h
  refine t_ret ?_
  exact hE
def spec_RowOk_res (r : Bool) : AV := .sv (.bool r)
def spec_RowOk_obs (r : Bool) : Objs := []
theorem spec_RowOk_ac {p0 : ByteArray} {r : Bool} (h : spec_RowOk p0 = some r) : AC Tryz.prog 89 [.sv (.str p0)] [] (spec_RowOk_res r) (spec_RowOk_obs r) := by
 refine ac_of_body hT Tryz.func89 rfl fun C hC => ?_
 unfold spec_RowOk at h
 refine s_reg ?_
 refine v_op hT hC rfl rfl rfl rfl trivial ?_
 refine Vc.nil ?_
 refine live [0, 2] [] (s' := [_, _]) (o' := []) rfl rfl ?_
 obtain ⟨v1, h1, h⟩ := bnd_some h
 refine aw_to ([(2, .sv (.bool v1)), (0, .any)], []) ?_ ?_
 ·
  have h := h1
  refine aw_region ?_
  iterate 4 refine v_op hT hC rfl rfl rfl rfl trivial ?_
  rcases sel_some h with ⟨hb1, h⟩ | ⟨hb1, h⟩
  ·
   refine v_on hT hC rfl rfl rfl rfl hb1 rfl rfl rfl trivial ?_
   obtain ⟨q2, hq, h⟩ := bnd_some h
   refine v_call_on hC [] rfl rfl rfl rfl hb1 rfl rfl rfl Tryz.call101 (spec_l02Row_ac hq) rfl (by decide) trivial rfl (.inl rfl) rfl ?_
   refine v_pick hC rfl rfl rfl (b := true) hb1 rfl rfl rfl trivial ?_
   refine v_op hT hC rfl rfl rfl rfl trivial ?_
   refine Vc.nil ?_
   injection h with h
   subst h
   refine m_norm ?_
   apply w_conv hC []
   ·
    exact co
   ·
    rfl
   ·
    decide
   ·
    rfl
  ·
   refine v_off hC rfl rfl rfl rfl hb1 rfl rfl ?_
   refine v_off hC rfl rfl rfl rfl hb1 rfl rfl ?_
   refine v_pick hC rfl rfl rfl (b := false) hb1 rfl rfl rfl trivial ?_
   refine v_op hT hC rfl rfl rfl rfl trivial ?_
   refine Vc.nil ?_
   injection h with h
   subst h
   refine m_norm ?_
   apply w_conv hC []
   ·
    exact co
   ·
    rfl
   ·
    decide
   ·
    rfl
 refine aw_ret ?_
 injection h with h
 subst h
 exact ends (Weak.refl _) rfl trivial
def spec_l02Bytes_res (r : ByteArray) : AV := .sv (.str r)
def spec_l02Bytes_obs (r : ByteArray) : Objs := []
theorem spec_l02Bytes_ac {p0 : ByteArray} {r : ByteArray} (h : spec_l02Bytes p0 = some r) : AC Tryz.prog 90 [.sv (.str p0)] [] (spec_l02Bytes_res r) (spec_l02Bytes_obs r) := by
 refine ac_of_body hT Tryz.func90 rfl fun C hC => ?_
 unfold spec_l02Bytes at h
 refine s_reg ?_
 refine v_op hT hC rfl rfl rfl rfl trivial ?_
 refine Vc.nil ?_
 refine s_reg ?_
 refine v_op hT hC rfl rfl rfl rfl trivial ?_
 obtain ⟨hq, h⟩ := req_some h
 refine v_op hT hC rfl rfl rfl rfl hq ?_
 refine v_op hT hC rfl rfl rfl rfl trivial ?_
 obtain ⟨hq, h⟩ := req_some h
 refine v_op hT hC rfl rfl rfl rfl ⟨trivial, hq⟩ ?_
 refine v_op hT hC rfl rfl rfl rfl trivial ?_
 refine Vc.nil ?_
 refine s_in ?_
 refine live [3] [176] (s' := [_]) (o' := [_]) rfl rfl ?_
 obtain ⟨v4, hl, h⟩ := bnd_some h
 refine s_loop (fun v2 => ([], [(176, some (.ints .u8 v2))])) (fun v4 => ([], [(176, some (.ints .u8 v4))])) hl ?_ ?_ ?_
 ·
  apply w_conv hC []
  ·
   exact co
  ·
   rfl
  ·
   decide
  ·
   rfl
 ·
  intro v2 s hs
  have h := hs
  unfold spec_l02Bytes_l2 at h
  refine s_in ?_
  refine s_reg ?_
  iterate 2 refine v_op hT hC rfl rfl rfl rfl trivial ?_
  obtain ⟨hq, h⟩ := req_some h
  refine v_op hT hC rfl rfl rfl rfl hq ?_
  refine v_op hT hC rfl rfl rfl rfl trivial ?_
  refine Vc.nil ?_
  rcases sel_some h with ⟨hb3, h⟩ | ⟨hb3, h⟩
  ·
   refine s_true rfl hb3 ?_
   refine aw_skip ?_
   refine t_norm ?_
   refine s_block ?_
   refine aw_region ?_
   iterate 2 refine v_op hT hC rfl rfl rfl rfl trivial ?_
   obtain ⟨hq, h⟩ := req_some h
   refine v_op hT hC rfl rfl rfl rfl ⟨trivial, hq⟩ ?_
   refine v_op hT hC rfl rfl rfl rfl trivial ?_
   refine Vc.nil ?_
   refine b_norm ?_
   injection h with h
   subst h
   refine r_go ?_
   apply w_conv hC [(176, 288)]
   ·
    exact co
   ·
    rfl
   ·
    decide
   ·
    rfl
  ·
   refine s_false rfl hb3 ?_
   refine aw_exit ?_
   refine t_exit ?_
   injection h with h
   subst h
   refine r_exit ?_
   refine o_out ?_
   apply w_conv hC []
   ·
    exact co
   ·
    rfl
   ·
    decide
   ·
    rfl
 refine t_norm ?_
 refine s_reg ?_
 iterate 2 refine v_op hT hC rfl rfl rfl rfl trivial ?_
 refine Vc.nil ?_
 refine s_in ?_
 refine s_reg ?_
 refine v_op hT hC rfl rfl rfl rfl trivial ?_
 refine Vc.nil ?_
 refine live [3, 4, 5] [176, 304] (s' := [_, _, _]) (o' := [_, _]) rfl rfl ?_
 obtain ⟨v19, hl, h⟩ := bnd_some h
 refine s_loop (fun v12 => ([(5, .sv (.int .i64 v12.1))], [(304, some (.ints .u8 v12.2))])) (fun v19 => ([(3, .any), (5, .any)], [(304, some (.ints .u8 v19)), (176, none)])) hl ?_ ?_ ?_
 ·
  try dsimp only
  apply w_conv hC []
  ·
   exact co
  ·
   rfl
  ·
   decide
  ·
   rfl
 ·
  intro v12 s hs
  have h := hs
  unfold spec_l02Bytes_l24 at h
  refine s_in ?_
  refine s_reg ?_
  iterate 4 refine v_op hT hC rfl rfl rfl rfl trivial ?_
  refine Vc.nil ?_
  rcases sel_some h with ⟨hb12, h⟩ | ⟨hb12, h⟩
  ·
   refine s_true rfl hb12 ?_
   refine aw_skip ?_
   refine t_norm ?_
   refine s_in ?_
   refine s_block ?_
   refine s_reg ?_
   refine v_op hT hC rfl rfl rfl rfl trivial ?_
   refine Vc.nil ?_
   refine s_in ?_
   refine s_reg ?_
   refine v_op hT hC rfl rfl rfl rfl trivial ?_
   refine Vc.nil ?_
   refine live [3, 4, 5, 6, 7] [176, 304] (s' := [_, _, _, _, _]) (o' := [_, _]) rfl rfl ?_
   obtain ⟨v23, hl, h⟩ := bnd_some h
   refine s_loop (fun v21 => ([(6, .sv (.int .i64 v21.1)), (7, .sv (.int .i64 v21.2))], [])) (fun v23 => ([(6, .sv (.int .i64 v23)), (7, .any)], [])) hl ?_ ?_ ?_
   ·
    try dsimp only
    apply w_conv hC []
    ·
     exact co
    ·
     rfl
    ·
     decide
    ·
     rfl
   ·
    intro v21 s hs
    have h := hs
    unfold spec_l02Bytes_l28 at h
    refine s_in ?_
    refine s_reg ?_
    iterate 2 refine v_op hT hC rfl rfl rfl rfl trivial ?_
    refine Vc.nil ?_
    rcases sel_some h with ⟨hb15, h⟩ | ⟨hb15, h⟩
    ·
     refine s_true rfl hb15 ?_
     refine aw_skip ?_
     refine t_norm ?_
     refine s_in ?_
     refine s_block ?_
     refine aw_region ?_
     iterate 6 refine v_op hT hC rfl rfl rfl rfl trivial ?_
     obtain ⟨hq, h⟩ := req_some h
     refine v_op hT hC rfl rfl rfl rfl hq ?_
     obtain ⟨hq, h⟩ := req_some h
     refine v_op hT hC rfl rfl rfl rfl hq ?_
     iterate 4 refine v_op hT hC rfl rfl rfl rfl trivial ?_
     refine Vc.nil ?_
     refine b_norm ?_
     refine t_norm ?_
     refine aw_region ?_
     iterate 3 refine v_op hT hC rfl rfl rfl rfl trivial ?_
     refine Vc.nil ?_
     injection h with h
     subst h
     refine r_go ?_
     try dsimp only
     apply w_conv hC []
     ·
      exact co
     ·
      rfl
     ·
      decide
     ·
      rfl
    ·
     refine s_false rfl hb15 ?_
     refine aw_exit ?_
     refine t_exit ?_
     injection h with h
     subst h
     refine r_exit ?_
     refine o_out ?_
     apply w_conv hC []
     ·
      exact co
     ·
      rfl
     ·
      decide
     ·
      rfl
   refine t_norm ?_
   refine aw_region ?_
   iterate 4 refine v_op hT hC rfl rfl rfl rfl trivial ?_
   obtain ⟨hq, h⟩ := req_some h
   refine v_op hT hC rfl rfl rfl rfl ⟨trivial, hq⟩ ?_
   refine v_op hT hC rfl rfl rfl rfl trivial ?_
   refine Vc.nil ?_
   refine b_norm ?_
   refine t_norm ?_
   refine aw_region ?_
   iterate 3 refine v_op hT hC rfl rfl rfl rfl trivial ?_
   refine Vc.nil ?_
   injection h with h
   subst h
   refine r_go ?_
   try dsimp only
   apply w_conv hC [(304, 720)]
   ·
    exact co
   ·
    rfl
   ·
    decide
   ·
    rfl
  ·
   refine s_false rfl hb12 ?_
   refine aw_exit ?_
   refine t_exit ?_
   injection h with h
   subst h
   refine r_exit ?_
   refine o_out ?_
   apply w_conv hC []
   ·
    exact co
   ·
    rfl
   ·
    decide
   ·
    rfl
 refine t_norm ?_
 refine s_reg ?_
 iterate 3 refine v_op hT hC rfl rfl rfl rfl trivial ?_
 refine Vc.nil ?_
 refine aw_ret ?_
 injection h with h
 subst h
 exact ends (Weak.refl _) rfl trivial
def spec_UnitOf_res (r : (ByteArray × Bool)) : AV := .tup [.sv (.str r.1), .sv (.bool r.2)]
def spec_UnitOf_obs (r : (ByteArray × Bool)) : Objs := []
theorem spec_UnitOf_ac {p0 : Int} {p1 : ByteArray} {r : (ByteArray × Bool)} (h : spec_UnitOf p0 p1 = some r) : AC Tryz.prog 65 [.sv (.int .i64 p0), .sv (.str p1)] [] (spec_UnitOf_res r) (spec_UnitOf_obs r) := by
 refine ac_of_body hT Tryz.func65 rfl fun C hC => ?_
 unfold spec_UnitOf at h
 refine s_reg ?_
 iterate 2 refine v_op hT hC rfl rfl rfl rfl trivial ?_
 refine Vc.nil ?_
 refine s_in ?_
 refine live [0, 1] [] (s' := [_, _]) (o' := []) rfl rfl ?_
 obtain ⟨v1, h1, h⟩ := bnd_some h
 refine aw_to ([(13, .sv (.bool v1))], []) ?_ ?_
 ·
  have h := h1
  refine aw_region ?_
  refine v_op hT hC rfl rfl rfl rfl trivial ?_
  obtain ⟨q2, hq, h⟩ := bnd_some h
  refine v_call hC [] rfl rfl rfl rfl Tryz.call88 (spec_l07Kind_ac hq) rfl (by decide) trivial rfl (.inl rfl) rfl ?_
  iterate 2 refine v_op hT hC rfl rfl rfl rfl trivial ?_
  rcases sel_some h with ⟨hb1, h⟩ | ⟨hb1, h⟩
  ·
   refine v_on hT hC rfl rfl rfl rfl (congrArg Bool.not hb1) rfl rfl rfl trivial ?_
   obtain ⟨q3, hq, h⟩ := bnd_some h
   refine v_call_on hC [] rfl rfl rfl rfl (congrArg Bool.not hb1) rfl rfl rfl Tryz.call89 (spec_RowOk_ac hq) rfl (by decide) trivial rfl (.inl rfl) rfl ?_
   refine v_on hT hC rfl rfl rfl rfl (congrArg Bool.not hb1) rfl rfl rfl trivial ?_
   refine v_pick hC rfl rfl rfl (b := false) (congrArg Bool.not hb1) rfl rfl rfl trivial ?_
   refine Vc.nil ?_
   injection h with h
   subst h
   refine m_norm ?_
   apply w_conv hC []
   ·
    exact co
   ·
    rfl
   ·
    decide
   ·
    rfl
  ·
   refine v_off hC rfl rfl rfl rfl (congrArg Bool.not hb1) rfl rfl ?_
   refine v_off hC rfl rfl rfl rfl (congrArg Bool.not hb1) rfl rfl ?_
   refine v_off hC rfl rfl rfl rfl (congrArg Bool.not hb1) rfl rfl ?_
   refine v_pick hC rfl rfl rfl (b := true) (congrArg Bool.not hb1) rfl rfl rfl trivial ?_
   refine Vc.nil ?_
   injection h with h
   subst h
   refine m_norm ?_
   apply w_conv hC []
   ·
    exact co
   ·
    rfl
   ·
    decide
   ·
    rfl
 rcases sel_some h with ⟨hb2, h⟩ | ⟨hb2, h⟩
 ·
  refine s_true rfl hb2 ?_
  refine s_reg ?_
  iterate 2 refine v_op hT hC rfl rfl rfl rfl trivial ?_
  refine Vc.nil ?_
  refine aw_ret ?_
  refine t_ret ?_
  injection h with h
  subst h
  exact ends (Weak.refl _) rfl trivial
 ·
  refine s_false rfl hb2 ?_
  refine aw_skip ?_
  refine t_norm ?_
  refine s_draw hm ?_
  iterate 5 refine v_op hT hC rfl rfl rfl rfl trivial ?_
  obtain ⟨q4, hq, h⟩ := bnd_some h
  refine v_call hC [] rfl rfl rfl rfl Tryz.call90 (spec_l02Bytes_ac hq) rfl (by decide) trivial rfl (.inl rfl) rfl ?_
  obtain ⟨hq, h⟩ := req_some h
  refine v_op hT hC rfl rfl rfl rfl hq ?_
  iterate 2 refine v_op hT hC rfl rfl rfl rfl trivial ?_
  refine Vc.nil ⟨by kernel_rfl, ?_⟩
  refine aw_ret ?_
  injection h with h
  subst h
  exact ends (Weak.refl _) rfl trivial
def spec_l05Flag_res (r : ByteArray) : AV := .sv (.str r)
def spec_l05Flag_obs (r : ByteArray) : Objs := []
theorem spec_l05Flag_ac {p0 : Bool} {r : ByteArray} (h : spec_l05Flag p0 = some r) : AC Tryz.prog 100 [.sv (.bool p0)] [] (spec_l05Flag_res r) (spec_l05Flag_obs r) := by
 refine ac_of_body hT Tryz.func100 rfl fun C hC => ?_
 unfold spec_l05Flag at h
 refine s_reg ?_
 refine v_op hT hC rfl rfl rfl rfl trivial ?_
 refine Vc.nil ?_
 refine s_in ?_
 refine s_reg ?_
 refine v_op hT hC rfl rfl rfl rfl trivial ?_
 refine Vc.nil ?_
 rcases sel_some h with ⟨hb1, h⟩ | ⟨hb1, h⟩
 ·
  refine s_true rfl hb1 ?_
  refine s_reg ?_
  refine v_op hT hC rfl rfl rfl rfl trivial ?_
  refine Vc.nil ?_
  refine aw_ret ?_
  refine t_ret ?_
  injection h with h
  subst h
  exact ends (Weak.refl _) rfl trivial
 ·
  refine s_false rfl hb1 ?_
  refine aw_skip ?_
  refine t_norm ?_
  refine s_reg ?_
  refine v_op hT hC rfl rfl rfl rfl trivial ?_
  refine Vc.nil ?_
  refine aw_ret ?_
  injection h with h
  subst h
  exact ends (Weak.refl _) rfl trivial
def spec_l05Par_res (r : ByteArray) : AV := .sv (.str r)
def spec_l05Par_obs (r : ByteArray) : Objs := []
theorem spec_l05Par_ac {p0 : Par} {r : ByteArray} (h : spec_l05Par p0 = some r) : AC Tryz.prog 87 [.agg [.sv (.int .i64 p0.Qp), .sv (.bool p0.Large), .sv (.bool p0.Exact), .sv (.bool p0.Confined)]] [] (spec_l05Par_res r) (spec_l05Par_obs r) := by
 refine ac_of_body hT Tryz.func87 rfl fun C hC => ?_
 unfold spec_l05Par at h
 refine s_reg ?_
 iterate 2 refine v_op hT hC rfl rfl rfl rfl trivial ?_
 refine Vc.nil ?_
 refine s_draw hm ?_
 iterate 2 refine v_op hT hC rfl rfl rfl rfl trivial ?_
 obtain ⟨q1, hq, h⟩ := bnd_some h
 refine v_call hC [] rfl rfl rfl rfl Tryz.call83 (spec_l02Fix_ac hq) rfl (by decide) trivial rfl (.inl rfl) rfl ?_
 iterate 2 refine v_op hT hC rfl rfl rfl rfl trivial ?_
 obtain ⟨q2, hq, h⟩ := bnd_some h
 refine v_call hC [] rfl rfl rfl rfl Tryz.call100 (spec_l05Flag_ac hq) rfl (by decide) trivial rfl (.inl rfl) rfl ?_
 obtain ⟨hq, h⟩ := req_some h
 refine v_op hT hC rfl rfl rfl rfl hq ?_
 iterate 2 refine v_op hT hC rfl rfl rfl rfl trivial ?_
 obtain ⟨q3, hq, h⟩ := bnd_some h
 refine v_call hC [] rfl rfl rfl rfl Tryz.call100 (spec_l05Flag_ac hq) rfl (by decide) trivial rfl (.inl rfl) rfl ?_
 obtain ⟨hq, h⟩ := req_some h
 refine v_op hT hC rfl rfl rfl rfl hq ?_
 iterate 2 refine v_op hT hC rfl rfl rfl rfl trivial ?_
 obtain ⟨q4, hq, h⟩ := bnd_some h
 refine v_call hC [] rfl rfl rfl rfl Tryz.call100 (spec_l05Flag_ac hq) rfl (by decide) trivial rfl (.inl rfl) rfl ?_
 obtain ⟨hq, h⟩ := req_some h
 refine v_op hT hC rfl rfl rfl rfl hq ?_
 refine v_op hT hC rfl rfl rfl rfl trivial ?_
 refine Vc.nil ⟨by kernel_rfl, ?_⟩
 refine aw_ret ?_
 injection h with h
 subst h
 exact ends (Weak.refl _) rfl trivial
def spec_SourceSets_res (r : (List ByteArray)) : AV := .own 16
def spec_SourceSets_obs (r : (List ByteArray)) : Objs := [(16, .row cByteArray r)]
theorem spec_SourceSets_ac {p0 : Source} {r : (List ByteArray)} (h : spec_SourceSets p0 = some r) : AC Tryz.prog 64 [.agg [.sv (.int .i64 p0.Seq.Level), .sv (.int .i64 p0.Seq.Bits), .sv (.ints .i64 p0.Seq.Cols), .sv (.ints .i64 p0.Seq.Rows), .sv (.int .i64 p0.Par.Qp), .sv (.bool p0.Par.Large), .sv (.bool p0.Par.Exact), .sv (.bool p0.Par.Confined), .sv (.int .i64 p0.Rate.Qp), .sv (.int .i64 p0.Rate.Target), .sv (.int .i64 p0.Rate.Debt), .sv (.int .i64 p0.Frame), .sv (.int .i64 p0.Since), .sv (.int .i64 p0.Every), .sv (.int .i64 p0.Reach), .sv (.bool p0.Has), .sv (.int .i64 p0.Ref.Wide), .sv (.int .i64 p0.Ref.High), .sv (.str p0.Ref.Dots)]] [] (spec_SourceSets_res r) (spec_SourceSets_obs r) := by
 refine ac_of_body hT Tryz.func64 rfl fun C hC => ?_
 unfold spec_SourceSets at h
 refine s_reg ?_
 iterate 2 refine v_op hT hC rfl rfl rfl rfl trivial ?_
 refine Vc.nil ?_
 refine s_in ?_
 refine s_reg ?_
 refine v_op hT hC rfl rfl rfl rfl trivial ?_
 obtain ⟨q1, hq, h⟩ := bnd_some h
 refine v_call hC [] rfl rfl rfl rfl Tryz.call53 (spec_SourceOk_ac hq) rfl (by decide) trivial rfl (.inl rfl) rfl ?_
 refine v_op hT hC rfl rfl rfl rfl trivial ?_
 refine Vc.nil ?_
 rcases sel_some h with ⟨hb1, h⟩ | ⟨hb1, h⟩
 ·
  refine s_true rfl hb1 ?_
  refine s_reg ?_
  iterate 2 refine v_op hT hC rfl rfl rfl rfl trivial ?_
  refine Vc.nil ?_
  refine aw_ret ?_
  refine t_ret ?_
  injection h with h
  subst h
  refine ends (τ := ⟨[(2, .own 16)], [(16, some (.row cByteArray ([] : List ByteArray)))]⟩) ?_ rfl ⟨rfl, trivial⟩
  apply w_conv hC [(16, 160)]
  ·
   exact co
  ·
   rfl
  ·
   decide
  ·
   rfl
 ·
  refine s_false rfl hb1 ?_
  refine aw_skip ?_
  refine t_norm ?_
  refine s_reg ?_
  iterate 2 refine v_op hT hC rfl rfl rfl rfl trivial ?_
  obtain ⟨q2, hq, h⟩ := bnd_some h
  refine v_call hC [] rfl rfl rfl rfl Tryz.call86 (spec_l05Seq_ac hq) rfl (by decide) trivial rfl (.inl rfl) rfl ?_
  obtain ⟨q3, hq, h⟩ := bnd_some h
  refine v_call hC [] rfl rfl rfl rfl Tryz.call65 (spec_UnitOf_ac hq) rfl (by decide) trivial rfl (.inl rfl) rfl ?_
  iterate 5 refine v_op hT hC rfl rfl rfl rfl trivial ?_
  refine Vc.nil ?_
  refine s_reg ?_
  iterate 2 refine v_op hT hC rfl rfl rfl rfl trivial ?_
  obtain ⟨q4, hq, h⟩ := bnd_some h
  refine v_call hC [] rfl rfl rfl rfl Tryz.call87 (spec_l05Par_ac hq) rfl (by decide) trivial rfl (.inl rfl) rfl ?_
  obtain ⟨q5, hq, h⟩ := bnd_some h
  refine v_call hC [] rfl rfl rfl rfl Tryz.call65 (spec_UnitOf_ac hq) rfl (by decide) trivial rfl (.inl rfl) rfl ?_
  iterate 5 refine v_op hT hC rfl rfl rfl rfl trivial ?_
  refine Vc.nil ?_
  refine s_reg ?_
  iterate 4 refine v_op hT hC rfl rfl rfl rfl trivial ?_
  refine Vc.nil ?_
  refine aw_ret ?_
  injection h with h
  subst h
  refine ends (τ := ⟨[(2, .own 16)], [(16, some (.row cByteArray ([q3.1, q5.1])))]⟩) ?_ rfl ⟨rfl, trivial⟩
  apply w_conv hC [(16, 432)]
  ·
   exact co
  ·
   rfl
  ·
   decide
  ·
   rfl
def spec_RateNext_res (r : Rate) : AV := .agg [.sv (.int .i64 r.Qp), .sv (.int .i64 r.Target), .sv (.int .i64 r.Debt)]
def spec_RateNext_obs (r : Rate) : Objs := []
theorem spec_RateNext_ac {p0 : Rate} {p1 : Int} {r : Rate} (h : spec_RateNext p0 p1 = some r) : AC Tryz.prog 66 [.agg [.sv (.int .i64 p0.Qp), .sv (.int .i64 p0.Target), .sv (.int .i64 p0.Debt)], .sv (.int .i64 p1)] [] (spec_RateNext_res r) (spec_RateNext_obs r) := by
 refine ac_of_body hT Tryz.func66 rfl fun C hC => ?_
 unfold spec_RateNext at h
 refine s_reg ?_
 iterate 2 refine v_op hT hC rfl rfl rfl rfl trivial ?_
 refine Vc.nil ?_
 refine s_in ?_
 refine s_reg ?_
 refine v_op hT hC rfl rfl rfl rfl trivial ?_
 obtain ⟨q1, hq, h⟩ := bnd_some h
 refine v_call hC [] rfl rfl rfl rfl Tryz.call71 (spec_RateOk_ac hq) rfl (by decide) trivial rfl (.inl rfl) rfl ?_
 refine v_op hT hC rfl rfl rfl rfl trivial ?_
 refine Vc.nil ?_
 rcases sel_some h with ⟨hb1, h⟩ | ⟨hb1, h⟩
 ·
  refine s_true rfl hb1 ?_
  refine s_reg ?_
  iterate 2 refine v_op hT hC rfl rfl rfl rfl trivial ?_
  refine Vc.nil ?_
  refine aw_ret ?_
  refine t_ret ?_
  injection h with h
  subst h
  exact ends (Weak.refl _) rfl trivial
 ·
  refine s_false rfl hb1 ?_
  refine aw_skip ?_
  refine t_norm ?_
  refine s_draw hm ?_
  iterate 3 refine v_op hT hC rfl rfl rfl rfl trivial ?_
  obtain ⟨q2, hq, h⟩ := bnd_some h
  refine v_call hC [] rfl rfl rfl rfl Tryz.call50 (spec_Brought_ac hq) rfl (by decide) trivial rfl (.inl rfl) rfl ?_
  iterate 10 refine v_op hT hC rfl rfl rfl rfl trivial ?_
  obtain ⟨q3, hq, h⟩ := bnd_some h
  refine v_call hC [] rfl rfl rfl rfl Tryz.call50 (spec_Brought_ac hq) rfl (by decide) trivial rfl (.inl rfl) rfl ?_
  refine v_op hT hC rfl rfl rfl rfl trivial ?_
  refine Vc.nil ⟨by kernel_rfl, ?_⟩
  refine s_reg ?_
  iterate 3 refine v_op hT hC rfl rfl rfl rfl trivial ?_
  refine Vc.nil ?_
  refine live [2, 4, 5, 6] [32, 64] (s' := [_, _, _, _]) (o' := [_, _]) rfl rfl ?_
  obtain ⟨v4, h1, h⟩ := bnd_some h
  refine aw_to ([(6, .sv (.int .i64 v4))], []) ?_ ?_
  ·
   have h := h1
   refine s_reg ?_
   iterate 4 refine v_op hT hC rfl rfl rfl rfl trivial ?_
   refine Vc.nil ?_
   rcases sel_some h with ⟨hb2, h⟩ | ⟨hb2, h⟩
   ·
    refine s_true rfl hb2 ?_
    refine aw_region ?_
    iterate 3 refine v_op hT hC rfl rfl rfl rfl trivial ?_
    refine Vc.nil ?_
    injection h with h
    subst h
    refine m_norm ?_
    apply w_conv hC []
    ·
     exact co
    ·
     rfl
    ·
     decide
    ·
     rfl
   ·
    refine s_false rfl hb2 ?_
    refine aw_skip ?_
    injection h with h
    subst h
    refine m_norm ?_
    apply w_conv hC []
    ·
     exact co
    ·
     rfl
    ·
     decide
    ·
     rfl
  refine live [2, 4, 5, 6] [32, 64] (s' := [_, _, _, _]) (o' := [_, _]) rfl rfl ?_
  obtain ⟨v5, h1, h⟩ := bnd_some h
  refine aw_to ([(6, .sv (.int .i64 v5))], []) ?_ ?_
  ·
   have h := h1
   refine s_reg ?_
   iterate 5 refine v_op hT hC rfl rfl rfl rfl trivial ?_
   refine Vc.nil ?_
   rcases sel_some h with ⟨hb3, h⟩ | ⟨hb3, h⟩
   ·
    refine s_true rfl hb3 ?_
    refine aw_region ?_
    iterate 3 refine v_op hT hC rfl rfl rfl rfl trivial ?_
    refine Vc.nil ?_
    injection h with h
    subst h
    refine m_norm ?_
    apply w_conv hC []
    ·
     exact co
    ·
     rfl
    ·
     decide
    ·
     rfl
   ·
    refine s_false rfl hb3 ?_
    refine aw_skip ?_
    injection h with h
    subst h
    refine m_norm ?_
    apply w_conv hC []
    ·
     exact co
    ·
     rfl
    ·
     decide
    ·
     rfl
  refine s_draw hm ?_
  refine v_op hT hC rfl rfl rfl rfl trivial ?_
  obtain ⟨q6, hq, h⟩ := bnd_some h
  refine v_call hC [] rfl rfl rfl rfl Tryz.call50 (spec_Brought_ac hq) rfl (by decide) trivial rfl (.inl rfl) rfl ?_
  iterate 5 refine v_op hT hC rfl rfl rfl rfl trivial ?_
  refine Vc.nil ⟨by kernel_rfl, ?_⟩
  refine aw_ret ?_
  injection h with h
  subst h
  exact ends (Weak.refl _) rfl trivial
def spec_SourceStep_res (r : (Source × (List ByteArray) × Bool)) : AV := .tup [.agg [.sv (.int .i64 r.1.Seq.Level), .sv (.int .i64 r.1.Seq.Bits), .own 16, .own 17, .sv (.int .i64 r.1.Par.Qp), .sv (.bool r.1.Par.Large), .sv (.bool r.1.Par.Exact), .sv (.bool r.1.Par.Confined), .sv (.int .i64 r.1.Rate.Qp), .sv (.int .i64 r.1.Rate.Target), .sv (.int .i64 r.1.Rate.Debt), .sv (.int .i64 r.1.Frame), .sv (.int .i64 r.1.Since), .sv (.int .i64 r.1.Every), .sv (.int .i64 r.1.Reach), .sv (.bool r.1.Has), .sv (.int .i64 r.1.Ref.Wide), .sv (.int .i64 r.1.Ref.High), .sv (.str r.1.Ref.Dots)], .own 18, .sv (.bool r.2.2)]
def spec_SourceStep_obs (r : (Source × (List ByteArray) × Bool)) : Objs := [(16, .ints .i64 r.1.Seq.Cols), (17, .ints .i64 r.1.Seq.Rows), (18, .row cByteArray r.2.1)]
theorem spec_SourceStep_ac {p0 : Source} {p1 : Pic} {p2 : Bool} {r : (Source × (List ByteArray) × Bool)} (h : spec_SourceStep p0 p1 p2 = some r) : AC Tryz.prog 46 [.agg [.sv (.int .i64 p0.Seq.Level), .sv (.int .i64 p0.Seq.Bits), .sv (.ints .i64 p0.Seq.Cols), .sv (.ints .i64 p0.Seq.Rows), .sv (.int .i64 p0.Par.Qp), .sv (.bool p0.Par.Large), .sv (.bool p0.Par.Exact), .sv (.bool p0.Par.Confined), .sv (.int .i64 p0.Rate.Qp), .sv (.int .i64 p0.Rate.Target), .sv (.int .i64 p0.Rate.Debt), .sv (.int .i64 p0.Frame), .sv (.int .i64 p0.Since), .sv (.int .i64 p0.Every), .sv (.int .i64 p0.Reach), .sv (.bool p0.Has), .sv (.int .i64 p0.Ref.Wide), .sv (.int .i64 p0.Ref.High), .sv (.str p0.Ref.Dots)], .agg [.sv (.int .i64 p1.Wide), .sv (.int .i64 p1.High), .sv (.str p1.Dots)], .sv (.bool p2)] [] (spec_SourceStep_res r) (spec_SourceStep_obs r) := by
 refine ac_of_body hT Tryz.func46 rfl fun C hC => ?_
 unfold spec_SourceStep at h
 refine s_reg ?_
 iterate 5 refine v_op hT hC rfl rfl rfl rfl trivial ?_
 refine Vc.nil ?_
 refine s_reg ?_
 iterate 2 refine v_op hT hC rfl rfl rfl rfl trivial ?_
 obtain ⟨q1, hq, h⟩ := bnd_some h
 refine v_call hC [] rfl rfl rfl rfl Tryz.call44 (spec_SizeOf_ac hq) rfl (by decide) trivial rfl (.inl rfl) rfl ?_
 iterate 5 refine v_op hT hC rfl rfl rfl rfl trivial ?_
 refine Vc.nil ?_
 refine s_reg ?_
 iterate 2 refine v_op hT hC rfl rfl rfl rfl trivial ?_
 obtain ⟨q2, hq, h⟩ := bnd_some h
 refine v_call hC [] rfl rfl rfl rfl Tryz.call57 (spec_KeyDue_ac hq) rfl (by decide) trivial rfl (.inl rfl) rfl ?_
 refine v_op hT hC rfl rfl rfl rfl trivial ?_
 refine Vc.nil ?_
 refine s_in ?_
 refine live [3, 4, 6, 9, 10, 11] [48, 64, 96] (s' := [_, _, _, _, _, _]) (o' := [_, _, _]) rfl rfl ?_
 obtain ⟨v3, h1, h⟩ := bnd_some h
 refine aw_to ([(61, .sv (.bool v3)), (9, .any), (10, .any)], []) ?_ ?_
 ·
  have h := h1
  refine aw_region ?_
  refine v_op hT hC rfl rfl rfl rfl trivial ?_
  obtain ⟨q4, hq, h⟩ := bnd_some h
  refine v_call hC [] rfl rfl rfl rfl Tryz.call53 (spec_SourceOk_ac hq) rfl (by decide) trivial rfl (.inl rfl) rfl ?_
  iterate 2 refine v_op hT hC rfl rfl rfl rfl trivial ?_
  rcases sel_some h with ⟨hb1, h⟩ | ⟨hb1, h⟩
  ·
   refine v_on hT hC rfl rfl rfl rfl (congrArg Bool.not hb1) rfl rfl rfl trivial ?_
   obtain ⟨q5, hq, h⟩ := bnd_some h
   refine v_call_on hC [] rfl rfl rfl rfl (congrArg Bool.not hb1) rfl rfl rfl Tryz.call58 (spec_PicOk_ac hq) rfl (by decide) trivial rfl (.inl rfl) rfl ?_
   refine v_on hT hC rfl rfl rfl rfl (congrArg Bool.not hb1) rfl rfl rfl trivial ?_
   refine v_pick hC rfl rfl rfl (b := false) (congrArg Bool.not hb1) rfl rfl rfl trivial ?_
   refine v_op hT hC rfl rfl rfl rfl trivial ?_
   rcases sel_some h with ⟨hb2, h⟩ | ⟨hb2, h⟩
   ·
    iterate 4 refine v_on hT hC rfl rfl rfl rfl (congrArg Bool.not hb2) rfl rfl rfl trivial ?_
    refine v_pick hC rfl rfl rfl (b := false) (congrArg Bool.not hb2) rfl rfl rfl trivial ?_
    refine v_op hT hC rfl rfl rfl rfl trivial ?_
    rcases sel_some h with ⟨hb3, h⟩ | ⟨hb3, h⟩
    ·
     refine v_off hC rfl rfl rfl rfl hb3 rfl rfl ?_
     refine v_off hC rfl rfl rfl rfl hb3 rfl rfl ?_
     refine v_off hC rfl rfl rfl rfl hb3 rfl rfl ?_
     refine v_off hC rfl rfl rfl rfl hb3 rfl rfl ?_
     refine v_pick hC rfl rfl rfl (b := true) hb3 rfl rfl rfl trivial ?_
     refine v_op hT hC rfl rfl rfl rfl trivial ?_
     refine v_off hC rfl rfl rfl rfl rfl rfl rfl ?_
     refine v_off hC rfl rfl rfl rfl rfl rfl rfl ?_
     refine v_off hC rfl rfl rfl rfl rfl rfl rfl ?_
     iterate 3 refine v_dead hC rfl rfl rfl rfl rfl rfl ?_
     refine v_off hC rfl rfl rfl rfl rfl rfl rfl ?_
     refine v_op hT hC rfl rfl rfl rfl trivial ?_
     refine Vc.nil ?_
     injection h with h
     subst h
     refine m_norm ?_
     apply w_conv hC []
     ·
      exact co
     ·
      rfl
     ·
      decide
     ·
      rfl
    ·
     iterate 4 refine v_on hT hC rfl rfl rfl rfl hb3 rfl rfl rfl trivial ?_
     refine v_pick hC rfl rfl rfl (b := false) hb3 rfl rfl rfl trivial ?_
     refine v_op hT hC rfl rfl rfl rfl trivial ?_
     rcases sel_some h with ⟨hb4, h⟩ | ⟨hb4, h⟩
     ·
      refine v_off hC rfl rfl rfl rfl hb4 rfl rfl ?_
      refine v_off hC rfl rfl rfl rfl hb4 rfl rfl ?_
      refine v_off hC rfl rfl rfl rfl hb4 rfl rfl ?_
      iterate 3 refine v_dead hC rfl rfl rfl rfl rfl rfl ?_
      refine v_off hC rfl rfl rfl rfl hb4 rfl rfl ?_
      refine v_pick hC rfl rfl rfl (b := true) hb4 rfl rfl rfl trivial ?_
      refine Vc.nil ?_
      injection h with h
      subst h
      refine m_norm ?_
      apply w_conv hC []
      ·
       exact co
      ·
       rfl
      ·
       decide
      ·
       rfl
     ·
      iterate 3 refine v_on hT hC rfl rfl rfl rfl hb4 rfl rfl rfl trivial ?_
      rcases sel_some h with ⟨hb5, h⟩ | ⟨hb5, h⟩
      ·
       refine v_off hC rfl rfl rfl rfl (congrArg Bool.not hb5) rfl rfl ?_
       refine v_off hC rfl rfl rfl rfl (congrArg Bool.not hb5) rfl rfl ?_
       refine v_off hC rfl rfl rfl rfl (congrArg Bool.not hb5) rfl rfl ?_
       refine v_pick_on hC rfl rfl rfl rfl hb4 rfl rfl (b := false) (congrArg Bool.not hb5) rfl rfl rfl trivial ?_
       refine v_pick hC rfl rfl rfl (b := false) hb4 rfl rfl rfl trivial ?_
       refine Vc.nil ?_
       injection h with h
       subst h
       refine m_norm ?_
       apply w_conv hC []
       ·
        exact co
       ·
        rfl
       ·
        decide
       ·
        rfl
      ·
       iterate 3 refine v_on hT hC rfl rfl rfl rfl (congrArg Bool.not hb5) rfl rfl rfl trivial ?_
       refine v_pick_on hC rfl rfl rfl rfl hb4 rfl rfl (b := true) (congrArg Bool.not hb5) rfl rfl rfl trivial ?_
       refine v_pick hC rfl rfl rfl (b := false) hb4 rfl rfl rfl trivial ?_
       refine Vc.nil ?_
       injection h with h
       subst h
       refine m_norm ?_
       apply w_conv hC []
       ·
        exact co
       ·
        rfl
       ·
        decide
       ·
        rfl
   ·
    refine v_off hC rfl rfl rfl rfl (congrArg Bool.not hb2) rfl rfl ?_
    refine v_off hC rfl rfl rfl rfl (congrArg Bool.not hb2) rfl rfl ?_
    refine v_off hC rfl rfl rfl rfl (congrArg Bool.not hb2) rfl rfl ?_
    refine v_off hC rfl rfl rfl rfl (congrArg Bool.not hb2) rfl rfl ?_
    refine v_pick hC rfl rfl rfl (b := true) (congrArg Bool.not hb2) rfl rfl rfl trivial ?_
    refine v_op hT hC rfl rfl rfl rfl trivial ?_
    refine v_off hC rfl rfl rfl rfl rfl rfl rfl ?_
    refine v_off hC rfl rfl rfl rfl rfl rfl rfl ?_
    refine v_off hC rfl rfl rfl rfl rfl rfl rfl ?_
    refine v_off hC rfl rfl rfl rfl rfl rfl rfl ?_
    iterate 2 refine v_op hT hC rfl rfl rfl rfl trivial ?_
    refine v_off hC rfl rfl rfl rfl rfl rfl rfl ?_
    refine v_off hC rfl rfl rfl rfl rfl rfl rfl ?_
    refine v_off hC rfl rfl rfl rfl rfl rfl rfl ?_
    iterate 3 refine v_dead hC rfl rfl rfl rfl rfl rfl ?_
    refine v_off hC rfl rfl rfl rfl rfl rfl rfl ?_
    refine v_op hT hC rfl rfl rfl rfl trivial ?_
    refine Vc.nil ?_
    injection h with h
    subst h
    refine m_norm ?_
    apply w_conv hC []
    ·
     exact co
    ·
     rfl
    ·
     decide
    ·
     rfl
  ·
   refine v_off hC rfl rfl rfl rfl (congrArg Bool.not hb1) rfl rfl ?_
   refine v_off hC rfl rfl rfl rfl (congrArg Bool.not hb1) rfl rfl ?_
   refine v_off hC rfl rfl rfl rfl (congrArg Bool.not hb1) rfl rfl ?_
   refine v_pick hC rfl rfl rfl (b := true) (congrArg Bool.not hb1) rfl rfl rfl trivial ?_
   refine v_op hT hC rfl rfl rfl rfl trivial ?_
   refine v_off hC rfl rfl rfl rfl rfl rfl rfl ?_
   refine v_off hC rfl rfl rfl rfl rfl rfl rfl ?_
   refine v_off hC rfl rfl rfl rfl rfl rfl rfl ?_
   refine v_off hC rfl rfl rfl rfl rfl rfl rfl ?_
   iterate 2 refine v_op hT hC rfl rfl rfl rfl trivial ?_
   refine v_off hC rfl rfl rfl rfl rfl rfl rfl ?_
   refine v_off hC rfl rfl rfl rfl rfl rfl rfl ?_
   refine v_off hC rfl rfl rfl rfl rfl rfl rfl ?_
   refine v_off hC rfl rfl rfl rfl rfl rfl rfl ?_
   iterate 2 refine v_op hT hC rfl rfl rfl rfl trivial ?_
   refine v_off hC rfl rfl rfl rfl rfl rfl rfl ?_
   refine v_off hC rfl rfl rfl rfl rfl rfl rfl ?_
   refine v_off hC rfl rfl rfl rfl rfl rfl rfl ?_
   iterate 3 refine v_dead hC rfl rfl rfl rfl rfl rfl ?_
   refine v_off hC rfl rfl rfl rfl rfl rfl rfl ?_
   refine v_op hT hC rfl rfl rfl rfl trivial ?_
   refine Vc.nil ?_
   injection h with h
   subst h
   refine m_norm ?_
   apply w_conv hC []
   ·
    exact co
   ·
    rfl
   ·
    decide
   ·
    rfl
 rcases sel_some h with ⟨hb6, h⟩ | ⟨hb6, h⟩
 ·
  refine s_true rfl hb6 ?_
  refine s_reg ?_
  iterate 2 refine v_op hT hC rfl rfl rfl rfl trivial ?_
  obtain ⟨q6, hq, h⟩ := bnd_some h
  refine v_call hC [(16, 1024), (17, 1025)] rfl rfl rfl rfl Tryz.call59 (spec_l05Copy_ac hq) rfl (by decide) trivial rfl (.inl rfl) rfl ?_
  iterate 2 refine v_op hT hC rfl rfl rfl rfl trivial ?_
  refine Vc.nil ?_
  refine s_reg ?_
  iterate 5 refine v_op hT hC rfl rfl rfl rfl trivial ?_
  refine Vc.nil ?_
  refine aw_ret ?_
  refine t_ret ?_
  injection h with h
  subst h
  refine ends (τ := ⟨[(6, .ptr 2000000 0), (7, .own 18), (8, .sv (.bool false))], [(16, some (.ints .i64 q6.Cols)), (17, some (.ints .i64 q6.Rows)), (18, some (.row cByteArray ([] : List ByteArray))), (2000000, some (.box [.sv (.int .i64 q6.Level), .sv (.int .i64 q6.Bits), .own 16, .own 17, .sv (.int .i64 p0.Par.Qp), .sv (.bool p0.Par.Large), .sv (.bool p0.Par.Exact), .sv (.bool p0.Par.Confined), .sv (.int .i64 p0.Rate.Qp), .sv (.int .i64 p0.Rate.Target), .sv (.int .i64 p0.Rate.Debt), .sv (.int .i64 p0.Frame), .sv (.int .i64 p0.Since), .sv (.int .i64 p0.Every), .sv (.int .i64 p0.Reach), .sv (.bool p0.Has), .sv (.int .i64 p0.Ref.Wide), .sv (.int .i64 p0.Ref.High), .sv (.str p0.Ref.Dots)]))]⟩) ?_ rfl ⟨rfl, rfl, rfl, trivial⟩
  apply w_conv hC [(16, 1024), (17, 1025), (18, 1072), (2000000, 96)]
  ·
   exact co
  ·
   rfl
  ·
   decide
  ·
   rfl
 ·
  refine s_false rfl hb6 ?_
  refine aw_skip ?_
  refine t_norm ?_
  refine s_draw hm ?_
  iterate 4 refine v_op hT hC rfl rfl rfl rfl trivial ?_
  obtain ⟨q7, hq, h⟩ := bnd_some h
  refine v_call hC [] rfl rfl rfl rfl Tryz.call60 (spec_QpFor_ac hq) rfl (by decide) trivial rfl (.inl rfl) rfl ?_
  iterate 9 refine v_op hT hC rfl rfl rfl rfl trivial ?_
  refine Vc.nil ⟨by kernel_rfl, ?_⟩
  refine s_reg ?_
  iterate 6 refine v_op hT hC rfl rfl rfl rfl trivial ?_
  obtain ⟨q8, hq, h⟩ := bnd_some h
  refine v_call hC [(16, 1392)] rfl rfl rfl rfl Tryz.call61 (spec_TileFor_ac hq) rfl (by decide) trivial rfl (.inl rfl) rfl ?_
  iterate 8 refine v_op hT hC rfl rfl rfl rfl trivial ?_
  refine Vc.nil ?_
  refine s_reg ?_
  iterate 9 refine v_op hT hC rfl rfl rfl rfl trivial ?_
  obtain ⟨q9, hq, h⟩ := bnd_some h
  refine v_call hC [] rfl rfl rfl rfl Tryz.call62 (spec_HeadRow_ac hq) rfl (by decide) trivial rfl (.inl rfl) rfl ?_
  iterate 5 refine v_op hT hC rfl rfl rfl rfl trivial ?_
  refine Vc.nil ?_
  refine s_reg ?_
  iterate 3 refine v_op hT hC rfl rfl rfl rfl trivial ?_
  obtain ⟨q10, hq, h⟩ := bnd_some h
  refine v_call hC [] rfl rfl rfl rfl Tryz.call63 (spec_l16Row_ac hq) rfl (by decide) trivial rfl (.inr ⟨rfl, trivial⟩) rfl ?_
  obtain ⟨hq, h⟩ := req_some h
  refine v_op hT hC rfl rfl rfl rfl hq ?_
  refine v_op hT hC rfl rfl rfl rfl trivial ?_
  refine Vc.nil ?_
  refine s_reg ?_
  iterate 2 refine v_op hT hC rfl rfl rfl rfl trivial ?_
  refine Vc.nil ?_
  refine s_reg ?_
  refine v_op hT hC rfl rfl rfl rfl trivial ?_
  refine Vc.nil ?_
  refine live [3, 6, 11, 14, 18, 19, 20] [48, 96, 224, 1744] (s' := [_, _, _, _, _, _, _]) (o' := [_, _, _, _]) rfl rfl ?_
  obtain ⟨v11, h1, h⟩ := bnd_some h
  refine aw_to ([(20, .sv (.int .i64 v11.1))], [(1744, some (.row cByteArray v11.2))]) ?_ ?_
  ·
   have h := h1
   refine s_reg ?_
   refine v_op hT hC rfl rfl rfl rfl trivial ?_
   refine Vc.nil ?_
   rcases sel_some h with ⟨hb7, h⟩ | ⟨hb7, h⟩
   ·
    refine s_true rfl hb7 ?_
    refine s_reg ?_
    refine v_op hT hC rfl rfl rfl rfl trivial ?_
    refine Vc.nil ?_
    refine aw_region ?_
    refine v_op hT hC rfl rfl rfl rfl trivial ?_
    obtain ⟨q12, hq, h⟩ := bnd_some h
    refine v_call hC [(16, 1792)] rfl rfl rfl rfl Tryz.call64 (spec_SourceSets_ac hq) rfl (by decide) trivial rfl (.inl rfl) rfl ?_
    refine v_op hT hC rfl rfl rfl rfl trivial ?_
    refine Vc.nil ?_
    injection h with h
    subst h
    refine m_norm ?_
    try dsimp only
    apply w_conv hC [(1744, 1792)]
    ·
     exact co
    ·
     rfl
    ·
     decide
    ·
     rfl
   ·
    refine s_false rfl hb7 ?_
    refine aw_skip ?_
    injection h with h
    subst h
    refine m_norm ?_
    try dsimp only
    apply w_conv hC []
    ·
     exact co
    ·
     rfl
    ·
     decide
    ·
     rfl
  refine s_reg ?_
  iterate 2 refine v_op hT hC rfl rfl rfl rfl trivial ?_
  obtain ⟨q13, hq, h⟩ := bnd_some h
  refine v_call hC [] rfl rfl rfl rfl Tryz.call65 (spec_UnitOf_ac hq) rfl (by decide) trivial rfl (.inl rfl) rfl ?_
  iterate 5 refine v_op hT hC rfl rfl rfl rfl trivial ?_
  refine Vc.nil ?_
  refine s_reg ?_
  iterate 3 refine v_op hT hC rfl rfl rfl rfl trivial ?_
  obtain ⟨hq, h⟩ := req_some h
  refine v_op hT hC rfl rfl rfl rfl ⟨fun _ _ => rfl, by rw [cByteArray_id]; exact hq⟩ ?_
  rw [cByteArray_id]
  refine v_op hT hC rfl rfl rfl rfl trivial ?_
  refine Vc.nil ?_
  refine s_reg ?_
  iterate 3 refine v_op hT hC rfl rfl rfl rfl trivial ?_
  refine Vc.nil ?_
  refine s_reg ?_
  iterate 2 refine v_op hT hC rfl rfl rfl rfl trivial ?_
  obtain ⟨q14, hq, h⟩ := bnd_some h
  refine v_call hC [(16, 2016), (17, 2017)] rfl rfl rfl rfl Tryz.call59 (spec_l05Copy_ac hq) rfl (by decide) trivial rfl (.inl rfl) rfl ?_
  iterate 2 refine v_op hT hC rfl rfl rfl rfl trivial ?_
  refine Vc.nil ?_
  refine s_reg ?_
  iterate 4 refine v_op hT hC rfl rfl rfl rfl trivial ?_
  obtain ⟨q15, hq, h⟩ := bnd_some h
  refine v_call hC [] rfl rfl rfl rfl Tryz.call66 (spec_RateNext_ac hq) rfl (by decide) trivial rfl (.inl rfl) rfl ?_
  iterate 2 refine v_op hT hC rfl rfl rfl rfl trivial ?_
  refine Vc.nil ?_
  refine s_reg ?_
  iterate 7 refine v_op hT hC rfl rfl rfl rfl trivial ?_
  obtain ⟨hq, h⟩ := req_some h
  refine v_op hT hC rfl rfl rfl rfl hq ?_
  obtain ⟨hq, h⟩ := req_some h
  refine v_op hT hC rfl rfl rfl rfl hq ?_
  iterate 2 refine v_op hT hC rfl rfl rfl rfl trivial ?_
  refine Vc.nil ?_
  refine s_reg ?_
  iterate 5 refine v_op hT hC rfl rfl rfl rfl trivial ?_
  refine Vc.nil ?_
  refine live [6, 11, 14, 19, 23] [96, 224, 368, 1952, 2016, 2017] (s' := [_, _, _, _, _]) (o' := [_, _, _, _, _, _]) rfl rfl ?_
  obtain ⟨v16, h1, h⟩ := bnd_some h
  refine aw_to ([(11, .any)], [(368, some (.box [.sv (.int .i64 q14.Level), .sv (.int .i64 q14.Bits), .own 2016, .own 2017, .sv (.int .i64 p0.Par.Qp), .sv (.bool p0.Par.Large), .sv (.bool p0.Par.Exact), .sv (.bool p0.Par.Confined), .sv (.int .i64 q15.Qp), .sv (.int .i64 q15.Target), .sv (.int .i64 q15.Debt), .sv (.int .i64 ((wrapK .i64 (p0.Frame + 1)).tmod (wrapK .i64 (1 * 2 ^ min (wrapK .u64 (p0.Seq.Bits)).toNat (IntKind.bits .i64))))), .sv (.int .i64 v16), .sv (.int .i64 p0.Every), .sv (.int .i64 p0.Reach), .sv (.bool p0.Has), .sv (.int .i64 p0.Ref.Wide), .sv (.int .i64 p0.Ref.High), .sv (.str p0.Ref.Dots)]))]) ?_ ?_
  ·
   have h := h1
   refine s_reg ?_
   refine v_op hT hC rfl rfl rfl rfl trivial ?_
   refine Vc.nil ?_
   rcases sel_some h with ⟨hb8, h⟩ | ⟨hb8, h⟩
   ·
    refine s_true rfl hb8 ?_
    refine aw_region ?_
    iterate 2 refine v_op hT hC rfl rfl rfl rfl trivial ?_
    refine Vc.nil ?_
    injection h with h
    subst h
    refine m_norm ?_
    apply w_conv hC []
    ·
     exact co
    ·
     rfl
    ·
     decide
    ·
     rfl
   ·
    refine s_false rfl hb8 ?_
    refine aw_skip ?_
    injection h with h
    subst h
    refine m_norm ?_
    apply w_conv hC []
    ·
     exact co
    ·
     rfl
    ·
     decide
    ·
     rfl
  refine s_reg ?_
  iterate 2 refine v_op hT hC rfl rfl rfl rfl trivial ?_
  refine Vc.nil ?_
  refine s_reg ?_
  iterate 3 refine v_op hT hC rfl rfl rfl rfl trivial ?_
  refine Vc.nil ?_
  refine s_reg ?_
  iterate 5 refine v_op hT hC rfl rfl rfl rfl trivial ?_
  refine Vc.nil ?_
  refine aw_ret ?_
  injection h with h
  subst h
  refine ends (τ := ⟨[(6, .ptr 2000000 0), (7, .own 18), (8, .sv (.bool true))], [(16, some (.ints .i64 q14.Cols)), (17, some (.ints .i64 q14.Rows)), (18, some (.row cByteArray (v11.2 ++ ([q13.1])))), (2000000, some (.box [.sv (.int .i64 q14.Level), .sv (.int .i64 q14.Bits), .own 16, .own 17, .sv (.int .i64 p0.Par.Qp), .sv (.bool p0.Par.Large), .sv (.bool p0.Par.Exact), .sv (.bool p0.Par.Confined), .sv (.int .i64 q15.Qp), .sv (.int .i64 q15.Target), .sv (.int .i64 q15.Debt), .sv (.int .i64 ((wrapK .i64 (p0.Frame + 1)).tmod (wrapK .i64 (1 * 2 ^ min (wrapK .u64 (p0.Seq.Bits)).toNat (IntKind.bits .i64))))), .sv (.int .i64 v16), .sv (.int .i64 p0.Every), .sv (.int .i64 p0.Reach), .sv (.bool true), .sv (.int .i64 q8.2.1.Wide), .sv (.int .i64 q8.2.1.High), .sv (.str q8.2.1.Dots)]))]⟩) ?_ rfl ⟨rfl, rfl, rfl, trivial⟩
  apply w_conv hC [(16, 2016), (17, 2017), (18, 1952), (2000000, 96)]
  ·
   exact co
  ·
   rfl
  ·
   decide
  ·
   rfl
def spec_l17Near_res (r : (Pic × L01Cur)) : AV := .agg [.sv (.int .i64 r.1.Wide), .sv (.int .i64 r.1.High), .sv (.str r.1.Dots)]
def spec_l17Near_obs (r : (Pic × L01Cur)) : Objs := [(0, .box [.sv (.ints .u8 r.2.b_), .sv (.int .i64 r.2.i_), .sv (.int .i64 r.2.h_)])]
theorem spec_l17Near_ac {p0 : L01Cur} {p1 : Pic} {r : (Pic × L01Cur)} (h : spec_l17Near p0 p1 = some r) : AC Tryz.prog 47 [.ptr 0 0, .agg [.sv (.int .i64 p1.Wide), .sv (.int .i64 p1.High), .sv (.str p1.Dots)]] [(0, .box [.sv (.ints .u8 p0.b_), .sv (.int .i64 p0.i_), .sv (.int .i64 p0.h_)])] (spec_l17Near_res r) (spec_l17Near_obs r) := by
 refine ac_of_body hT Tryz.func47 rfl fun C hC => ?_
 unfold spec_l17Near at h
 refine s_reg ?_
 iterate 2 refine v_op hT hC rfl rfl rfl rfl trivial ?_
 refine Vc.nil ?_
 refine s_reg ?_
 refine v_op hT hC rfl rfl rfl rfl trivial ?_
 obtain ⟨q1, hq, h⟩ := bnd_some h
 refine v_call hC [(0, 0)] rfl rfl rfl rfl Tryz.call22 (spec_l01Below_ac hq) rfl (by decide) ⟨rfl, trivial⟩ rfl (.inl rfl) rfl ?_
 iterate 2 refine v_op hT hC rfl rfl rfl rfl trivial ?_
 refine Vc.nil ?_
 refine s_reg ?_
 refine v_op hT hC rfl rfl rfl rfl trivial ?_
 obtain ⟨q2, hq, h⟩ := bnd_some h
 refine v_call hC [(0, 0)] rfl rfl rfl rfl Tryz.call22 (spec_l01Below_ac hq) rfl (by decide) ⟨rfl, trivial⟩ rfl (.inl rfl) rfl ?_
 iterate 2 refine v_op hT hC rfl rfl rfl rfl trivial ?_
 refine Vc.nil ?_
 refine live [0, 3, 4, 5, 6] [0, 48, 64] (s' := [_, _, _, _, _]) (o' := [_, _, _]) rfl rfl ?_
 obtain ⟨v3, h1, h⟩ := bnd_some h
 refine aw_to ([(5, .sv (.int .i64 v3.1)), (6, .sv (.int .i64 v3.2.1))], [(0, some (.box [.sv (.ints .u8 v3.2.2.1), .sv (.int .i64 v3.2.2.2.1), .sv (.int .i64 v3.2.2.2.2)]))]) ?_ ?_
 ·
  have h := h1
  refine s_reg ?_
  refine v_op hT hC rfl rfl rfl rfl trivial ?_
  obtain ⟨q4, hq, h⟩ := bnd_some h
  refine v_call hC [(0, 0)] rfl rfl rfl rfl Tryz.call32 (spec_l01Once_ac hq) rfl (by decide) ⟨rfl, trivial⟩ rfl (.inl rfl) rfl ?_
  refine Vc.nil ?_
  rcases sel_some h with ⟨hb1, h⟩ | ⟨hb1, h⟩
  ·
   refine s_true rfl hb1 ?_
   refine s_reg ?_
   refine v_op hT hC rfl rfl rfl rfl trivial ?_
   refine Vc.nil ?_
   refine aw_region ?_
   refine v_op hT hC rfl rfl rfl rfl trivial ?_
   refine Vc.nil ?_
   injection h with h
   subst h
   refine m_norm ?_
   try dsimp only
   apply w_conv hC []
   ·
    exact co
   ·
    rfl
   ·
    decide
   ·
    rfl
  ·
   refine s_false rfl hb1 ?_
   refine aw_skip ?_
   injection h with h
   subst h
   refine m_norm ?_
   try dsimp only
   apply w_conv hC []
   ·
    exact co
   ·
    rfl
   ·
    decide
   ·
    rfl
 refine s_reg ?_
 iterate 2 refine v_op hT hC rfl rfl rfl rfl trivial ?_
 refine Vc.nil ?_
 refine s_in ?_
 refine s_reg ?_
 refine v_op hT hC rfl rfl rfl rfl trivial ?_
 refine Vc.nil ?_
 refine live [0, 3, 4, 5, 6, 7, 8] [0, 48, 64, 288] (s' := [_, _, _, _, _, _, _]) (o' := [_, _, _, _]) rfl rfl ?_
 obtain ⟨v10, hl, h⟩ := bnd_some h
 refine s_loop (fun v7 => ([(8, .sv (.int .i64 v7.1))], [(288, some (.ints .u8 v7.2))])) (fun v10 => ([(5, .any), (6, .any), (8, .any)], [(288, some (.ints .u8 v10))])) hl ?_ ?_ ?_
 ·
  try dsimp only
  apply w_conv hC []
  ·
   exact co
  ·
   rfl
  ·
   decide
  ·
   rfl
 ·
  intro v7 s hs
  have h := hs
  unfold spec_l17Near_l2 at h
  refine s_in ?_
  refine s_reg ?_
  iterate 5 refine v_op hT hC rfl rfl rfl rfl trivial ?_
  refine Vc.nil ?_
  rcases sel_some h with ⟨hb4, h⟩ | ⟨hb4, h⟩
  ·
   refine s_true rfl hb4 ?_
   refine aw_skip ?_
   refine t_norm ?_
   refine s_in ?_
   refine s_block ?_
   refine aw_draw hm ?_
   iterate 5 refine v_op hT hC rfl rfl rfl rfl trivial ?_
   obtain ⟨hq, h⟩ := req_some h
   refine v_op hT hC rfl rfl rfl rfl hq ?_
   iterate 5 refine v_op hT hC rfl rfl rfl rfl trivial ?_
   obtain ⟨hq, h⟩ := req_some h
   refine v_op hT hC rfl rfl rfl rfl hq ?_
   iterate 2 refine v_op hT hC rfl rfl rfl rfl trivial ?_
   obtain ⟨q11, hq, h⟩ := bnd_some h
   refine v_call hC [] rfl rfl rfl rfl Tryz.call67 (spec_DotAt_ac hq) rfl (by decide) trivial rfl (.inl rfl) rfl ?_
   iterate 2 refine v_op hT hC rfl rfl rfl rfl trivial ?_
   obtain ⟨hq, h⟩ := req_some h
   refine v_op hT hC rfl rfl rfl rfl ⟨trivial, hq⟩ ?_
   refine v_op hT hC rfl rfl rfl rfl trivial ?_
   refine Vc.nil ⟨by kernel_rfl, ?_⟩
   refine b_norm ?_
   refine t_norm ?_
   refine aw_region ?_
   iterate 3 refine v_op hT hC rfl rfl rfl rfl trivial ?_
   refine Vc.nil ?_
   injection h with h
   subst h
   refine r_go ?_
   try dsimp only
   apply w_conv hC [(288, 688)]
   ·
    exact co
   ·
    rfl
   ·
    decide
   ·
    rfl
  ·
   refine s_false rfl hb4 ?_
   refine aw_exit ?_
   refine t_exit ?_
   injection h with h
   subst h
   refine r_exit ?_
   refine o_out ?_
   apply w_conv hC []
   ·
    exact co
   ·
    rfl
   ·
    decide
   ·
    rfl
 refine t_norm ?_
 refine s_in ?_
 refine s_reg ?_
 refine v_op hT hC rfl rfl rfl rfl trivial ?_
 refine Vc.nil ?_
 refine live [0, 3, 4, 7, 9] [0, 48, 64, 288] (s' := [_, _, _, _, _]) (o' := [_, _, _, _]) rfl rfl ?_
 obtain ⟨v22, hl, h⟩ := bnd_some h
 refine s_loop (fun v17 => ([(9, .sv (.int .i64 v17.1))], [(0, some (.box [.sv (.ints .u8 v17.2.1), .sv (.int .i64 v17.2.2.1), .sv (.int .i64 v17.2.2.2.1)])), (288, some (.ints .u8 v17.2.2.2.2))])) (fun v22 => ([(0, .any), (9, .any)], [(0, some (.box [.sv (.ints .u8 v22.2.1), .sv (.int .i64 v22.2.2.1), .sv (.int .i64 v22.2.2.2)])), (288, some (.ints .u8 v22.1))])) hl ?_ ?_ ?_
 ·
  try dsimp only
  apply w_conv hC []
  ·
   exact co
  ·
   rfl
  ·
   decide
  ·
   rfl
 ·
  intro v17 s hs
  have h := hs
  unfold spec_l17Near_l4 at h
  refine s_in ?_
  refine s_reg ?_
  iterate 2 refine v_op hT hC rfl rfl rfl rfl trivial ?_
  obtain ⟨q23, hq, h⟩ := bnd_some h
  refine v_call hC [(0, 0)] rfl rfl rfl rfl Tryz.call22 (spec_l01Below_ac hq) rfl (by decide) ⟨rfl, trivial⟩ rfl (.inl rfl) rfl ?_
  refine v_op hT hC rfl rfl rfl rfl trivial ?_
  refine Vc.nil ?_
  rcases sel_some h with ⟨hb7, h⟩ | ⟨hb7, h⟩
  ·
   refine s_true rfl hb7 ?_
   refine aw_skip ?_
   refine t_norm ?_
   refine s_in ?_
   refine s_block ?_
   refine aw_region ?_
   iterate 4 refine v_op hT hC rfl rfl rfl rfl trivial ?_
   obtain ⟨q24, hq, h⟩ := bnd_some h
   refine v_call hC [(0, 0)] rfl rfl rfl rfl Tryz.call22 (spec_l01Below_ac hq) rfl (by decide) ⟨rfl, trivial⟩ rfl (.inl rfl) rfl ?_
   refine v_op hT hC rfl rfl rfl rfl trivial ?_
   obtain ⟨q25, hq, h⟩ := bnd_some h
   refine v_call hC [(0, 0)] rfl rfl rfl rfl Tryz.call21 (spec_l01Byte_ac hq) rfl (by decide) ⟨rfl, trivial⟩ rfl (.inl rfl) rfl ?_
   refine v_op hT hC rfl rfl rfl rfl trivial ?_
   obtain ⟨hq, h⟩ := req_some h
   refine v_op hT hC rfl rfl rfl rfl hq ?_
   obtain ⟨hq, h⟩ := req_some h
   refine v_op hT hC rfl rfl rfl rfl hq ?_
   refine Vc.nil ?_
   refine b_norm ?_
   refine t_norm ?_
   refine aw_region ?_
   iterate 3 refine v_op hT hC rfl rfl rfl rfl trivial ?_
   refine Vc.nil ?_
   injection h with h
   subst h
   refine r_go ?_
   try dsimp only
   apply w_conv hC []
   ·
    exact co
   ·
    rfl
   ·
    decide
   ·
    rfl
  ·
   refine s_false rfl hb7 ?_
   refine aw_exit ?_
   refine t_exit ?_
   injection h with h
   subst h
   refine r_exit ?_
   refine o_out ?_
   try dsimp only
   apply w_conv hC []
   ·
    exact co
   ·
    rfl
   ·
    decide
   ·
    rfl
 refine t_norm ?_
 refine s_reg ?_
 iterate 8 refine v_op hT hC rfl rfl rfl rfl trivial ?_
 refine Vc.nil ?_
 refine aw_ret ?_
 injection h with h
 subst h
 exact ends (Weak.refl _) rfl ⟨rfl, trivial⟩
end
end Go.Proofs.YtgmcephkajhfjaaGreat.A
