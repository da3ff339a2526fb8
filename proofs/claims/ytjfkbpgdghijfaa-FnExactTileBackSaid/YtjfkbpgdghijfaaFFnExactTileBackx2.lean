/- Contracts of the functions that the law FnExactTileBack reaches, part 2: each comes to what its pure function tells. Written by a program of this session. Conditions: as each statement tells. -/
import Derived.Test.YtjfkbpgdghijfaaFFnExactTileBackx1
namespace Go.Proofs.Ytjfkbpgdghijfaa.A
open Go Go.Proofs Go.Proofs.YtjfkbpgdghijfaaAL Go.RowKit
set_option linter.unusedVariables false
set_option linter.unusedSimpArgs false
set_option maxRecDepth 100000
set_option maxHeartbeats 2000000
noncomputable section
def spec_Unscanned_res (r : ((List Int) × Bool)) : AV := .tup [.own 16, .sv (.bool r.2)]
def spec_Unscanned_obs (r : ((List Int) × Bool)) : Objs := [(16, .ints .i64 r.1)]
theorem spec_Unscanned_ac {p0 : Int} {p1 : (List Int)} {r : ((List Int) × Bool)} (h : spec_Unscanned p0 p1 = some r) : AC Try.prog 157 [.sv (.int .i64 p0), .sv (.ints .i64 p1)] [] (spec_Unscanned_res r) (spec_Unscanned_obs r) := by
 refine ac_of_body hT Try.func157 rfl fun C hC => ?_
 unfold spec_Unscanned at h
 refine s_reg ?_
 iterate 2 refine v_op hT hC rfl rfl rfl rfl trivial ?_
 refine Vc.nil ?_
 refine s_in ?_
 refine live [0, 1] [] (s' := [_, _]) (o' := []) rfl rfl ?_
 obtain ⟨v1, h1, h⟩ := bnd_some h
 refine aw_to ([(21, .sv (.bool v1))], []) ?_ ?_
 ·
  have h := h1
  refine aw_region ?_
  iterate 3 refine v_op hT hC rfl rfl rfl rfl trivial ?_
  rcases sel_some h with ⟨hb1, h⟩ | ⟨hb1, h⟩
  ·
   iterate 2 refine v_on hT hC rfl rfl rfl rfl hb1 rfl rfl rfl trivial ?_
   refine v_pick hC rfl rfl rfl (b := true) hb1 rfl rfl rfl trivial ?_
   refine v_op hT hC rfl rfl rfl rfl trivial ?_
   rcases sel_some h with ⟨hb2, h⟩ | ⟨hb2, h⟩
   ·
    refine v_off hC rfl rfl rfl rfl hb2 rfl rfl ?_
    refine v_off hC rfl rfl rfl rfl hb2 rfl rfl ?_
    refine v_off hC rfl rfl rfl rfl hb2 rfl rfl ?_
    refine v_off hC rfl rfl rfl rfl hb2 rfl rfl ?_
    refine v_off hC rfl rfl rfl rfl hb2 rfl rfl ?_
    refine v_off hC rfl rfl rfl rfl hb2 rfl rfl ?_
    refine v_pick hC rfl rfl rfl (b := true) hb2 rfl rfl rfl trivial ?_
    refine Vc.nil ?_
    injection h with h
    subst h
    refine m_norm ?_
    apply w_conv hC []
    ·
     exact co
    ·
     rfl
    ·
     decide
    ·
     rfl
   ·
    iterate 6 refine v_on hT hC rfl rfl rfl rfl hb2 rfl rfl rfl trivial ?_
    refine v_pick hC rfl rfl rfl (b := false) hb2 rfl rfl rfl trivial ?_
    refine Vc.nil ?_
    injection h with h
    subst h
    refine m_norm ?_
    apply w_conv hC []
    ·
     exact co
    ·
     rfl
    ·
     decide
    ·
     rfl
  ·
   refine v_off hC rfl rfl rfl rfl hb1 rfl rfl ?_
   refine v_off hC rfl rfl rfl rfl hb1 rfl rfl ?_
   refine v_pick hC rfl rfl rfl (b := false) hb1 rfl rfl rfl trivial ?_
   refine v_op hT hC rfl rfl rfl rfl trivial ?_
   iterate 6 refine v_on hT hC rfl rfl rfl rfl rfl rfl rfl rfl trivial ?_
   refine v_op hT hC rfl rfl rfl rfl trivial ?_
   refine Vc.nil ?_
   injection h with h
   subst h
   refine m_norm ?_
   apply w_conv hC []
   ·
    exact co
   ·
    rfl
   ·
    decide
   ·
    rfl
 rcases sel_some h with ⟨hb3, h⟩ | ⟨hb3, h⟩
 ·
  refine s_true rfl hb3 ?_
  refine s_reg ?_
  iterate 3 refine v_op hT hC rfl rfl rfl rfl trivial ?_
  refine Vc.nil ?_
  refine aw_ret ?_
  refine t_ret ?_
  injection h with h
  subst h
  refine ends (τ := ⟨[(4, .own 16), (5, .sv (.bool false))], [(16, some (.ints .i64 ([] : List Int)))]⟩) ?_ rfl ⟨rfl, trivial⟩
  apply w_conv hC [(16, 352)]
  ·
   exact co
  ·
   rfl
  ·
   decide
  ·
   rfl
 ·
  refine s_false rfl hb3 ?_
  refine aw_skip ?_
  refine t_norm ?_
  refine s_reg ?_
  iterate 2 refine v_op hT hC rfl rfl rfl rfl trivial ?_
  obtain ⟨hq, h⟩ := req_some h
  refine v_op hT hC rfl rfl rfl rfl ⟨hq.1, hq.2.1, hq.2.2, by decide⟩ ?_
  refine v_op hT hC rfl rfl rfl rfl trivial ?_
  refine Vc.nil ?_
  refine s_in ?_
  refine s_reg ?_
  refine v_op hT hC rfl rfl rfl rfl trivial ?_
  refine Vc.nil ?_
  refine live [0, 1, 6, 7] [400] (s' := [_, _, _, _]) (o' := [_]) rfl rfl ?_
  obtain ⟨v7, hl, h⟩ := bnd_some h
  refine s_loop (fun v4 => ([(7, .sv (.int .i64 v4.1))], [(400, some (.ints .i64 v4.2))])) (fun v7 => ([(0, .any), (1, .any), (7, .any)], [(400, some (.ints .i64 v7))])) hl ?_ ?_ ?_
  ·
   try dsimp only
   apply w_conv hC []
   ·
    exact co
   ·
    rfl
   ·
    decide
   ·
    rfl
  ·
   intro v4 s hs
   have h := hs
   unfold spec_Unscanned_l2 at h
   refine s_in ?_
   refine s_reg ?_
   iterate 5 refine v_op hT hC rfl rfl rfl rfl trivial ?_
   refine Vc.nil ?_
   rcases sel_some h with ⟨hb6, h⟩ | ⟨hb6, h⟩
   ·
    refine s_true rfl hb6 ?_
    refine aw_skip ?_
    refine t_norm ?_
    refine s_in ?_
    refine s_block ?_
    refine aw_draw hm ?_
    iterate 3 refine v_op hT hC rfl rfl rfl rfl trivial ?_
    obtain ⟨q8, hq, h⟩ := bnd_some h
    refine v_call hC [] rfl rfl rfl rfl Try.call171 (spec_ScanAt_ac hq) rfl (by decide) trivial rfl (.inl rfl) rfl ?_
    iterate 2 refine v_op hT hC rfl rfl rfl rfl trivial ?_
    obtain ⟨hq, h⟩ := req_some h
    refine v_op hT hC rfl rfl rfl rfl hq ?_
    refine v_op hT hC rfl rfl rfl rfl trivial ?_
    obtain ⟨hq, h⟩ := req_some h
    refine v_op hT hC rfl rfl rfl rfl hq ?_
    obtain ⟨hq, h⟩ := req_some h
    refine v_op hT hC rfl rfl rfl rfl hq ?_
    refine Vc.nil ⟨by kernel_rfl, ?_⟩
    refine b_norm ?_
    refine t_norm ?_
    refine aw_region ?_
    iterate 3 refine v_op hT hC rfl rfl rfl rfl trivial ?_
    refine Vc.nil ?_
    injection h with h
    subst h
    refine r_go ?_
    try dsimp only
    apply w_conv hC []
    ·
     exact co
    ·
     rfl
    ·
     decide
    ·
     rfl
   ·
    refine s_false rfl hb6 ?_
    refine aw_exit ?_
    refine t_exit ?_
    injection h with h
    subst h
    refine r_exit ?_
    refine o_out ?_
    apply w_conv hC []
    ·
     exact co
    ·
     rfl
    ·
     decide
    ·
     rfl
  refine t_norm ?_
  refine s_reg ?_
  iterate 3 refine v_op hT hC rfl rfl rfl rfl trivial ?_
  refine Vc.nil ?_
  refine aw_ret ?_
  injection h with h
  subst h
  refine ends (τ := ⟨[(4, .own 16), (5, .sv (.bool true))], [(16, some (.ints .i64 v7))]⟩) ?_ rfl ⟨rfl, trivial⟩
  apply w_conv hC [(16, 400)]
  ·
   exact co
  ·
   rfl
  ·
   decide
  ·
   rfl
def spec_StepOf_res (r : Int) : AV := .sv (.int .i64 r)
def spec_StepOf_obs (r : Int) : Objs := []
theorem spec_StepOf_ac {p0 : Int} {r : Int} (h : spec_StepOf p0 = some r) : AC Try.prog 172 [.sv (.int .i64 p0)] [] (spec_StepOf_res r) (spec_StepOf_obs r) := by
 refine ac_of_body hT Try.func172 rfl fun C hC => ?_
 unfold spec_StepOf at h
 refine s_reg ?_
 refine v_op hT hC rfl rfl rfl rfl trivial ?_
 refine Vc.nil ?_
 refine s_in ?_
 refine s_reg ?_
 refine v_op hT hC rfl rfl rfl rfl trivial ?_
 obtain ⟨q1, hq, h⟩ := bnd_some h
 refine v_call hC [] rfl rfl rfl rfl Try.call48 (spec_l01In_ac hq) rfl (by decide) trivial rfl (.inl rfl) rfl ?_
 refine v_op hT hC rfl rfl rfl rfl trivial ?_
 refine Vc.nil ?_
 rcases sel_some h with ⟨hb1, h⟩ | ⟨hb1, h⟩
 ·
  refine s_true rfl hb1 ?_
  refine s_reg ?_
  refine v_op hT hC rfl rfl rfl rfl trivial ?_
  refine Vc.nil ?_
  refine aw_ret ?_
  refine t_ret ?_
  injection h with h
  subst h
  exact ends (Weak.refl _) rfl trivial
 ·
  refine s_false rfl hb1 ?_
  refine aw_skip ?_
  refine t_norm ?_
  refine s_reg ?_
  refine v_op hT hC rfl rfl rfl rfl trivial ?_
  refine Vc.nil ?_
  refine live [0, 3] [] (s' := [_, _]) (o' := []) rfl rfl ?_
  obtain ⟨v2, h1, h⟩ := bnd_some h
  refine aw_to ([(3, .sv (.int .i64 v2))], []) ?_ ?_
  ·
   have h := h1
   refine s_reg ?_
   refine v_op hT hC rfl rfl rfl rfl trivial ?_
   obtain ⟨hq, h⟩ := req_some h
   refine v_op hT hC rfl rfl rfl rfl hq ?_
   refine Vc.nil ?_
   refine s_block ?_
   refine s_reg ?_
   iterate 2 refine v_op hT hC rfl rfl rfl rfl trivial ?_
   refine Vc.nil ?_
   rcases sel_some h with ⟨hb2, h⟩ | ⟨hb2, h⟩
   ·
    refine s_true rfl hb2 ?_
    refine aw_region ?_
    refine v_op hT hC rfl rfl rfl rfl trivial ?_
    refine Vc.nil ?_
    refine b_norm ?_
    injection h with h
    subst h
    refine m_norm ?_
    apply w_conv hC []
    ·
     exact co
    ·
     rfl
    ·
     decide
    ·
     rfl
   ·
    refine s_false rfl hb2 ?_
    refine s_reg ?_
    iterate 2 refine v_op hT hC rfl rfl rfl rfl trivial ?_
    refine Vc.nil ?_
    rcases sel_some h with ⟨hb3, h⟩ | ⟨hb3, h⟩
    ·
     refine s_true rfl hb3 ?_
     refine aw_region ?_
     refine v_op hT hC rfl rfl rfl rfl trivial ?_
     refine Vc.nil ?_
     refine b_norm ?_
     injection h with h
     subst h
     refine m_norm ?_
     apply w_conv hC []
     ·
      exact co
     ·
      rfl
     ·
      decide
     ·
      rfl
    ·
     refine s_false rfl hb3 ?_
     refine s_reg ?_
     iterate 2 refine v_op hT hC rfl rfl rfl rfl trivial ?_
     refine Vc.nil ?_
     rcases sel_some h with ⟨hb4, h⟩ | ⟨hb4, h⟩
     ·
      refine s_true rfl hb4 ?_
      refine aw_region ?_
      refine v_op hT hC rfl rfl rfl rfl trivial ?_
      refine Vc.nil ?_
      refine b_norm ?_
      injection h with h
      subst h
      refine m_norm ?_
      apply w_conv hC []
      ·
       exact co
      ·
       rfl
      ·
       decide
      ·
       rfl
     ·
      refine s_false rfl hb4 ?_
      refine s_reg ?_
      iterate 2 refine v_op hT hC rfl rfl rfl rfl trivial ?_
      refine Vc.nil ?_
      rcases sel_some h with ⟨hb5, h⟩ | ⟨hb5, h⟩
      ·
       refine s_true rfl hb5 ?_
       refine aw_region ?_
       refine v_op hT hC rfl rfl rfl rfl trivial ?_
       refine Vc.nil ?_
       refine b_norm ?_
       injection h with h
       subst h
       refine m_norm ?_
       apply w_conv hC []
       ·
        exact co
       ·
        rfl
       ·
        decide
       ·
        rfl
      ·
       refine s_false rfl hb5 ?_
       refine s_reg ?_
       iterate 2 refine v_op hT hC rfl rfl rfl rfl trivial ?_
       refine Vc.nil ?_
       rcases sel_some h with ⟨hb6, h⟩ | ⟨hb6, h⟩
       ·
        refine s_true rfl hb6 ?_
        refine aw_region ?_
        refine v_op hT hC rfl rfl rfl rfl trivial ?_
        refine Vc.nil ?_
        refine b_norm ?_
        injection h with h
        subst h
        refine m_norm ?_
        apply w_conv hC []
        ·
         exact co
        ·
         rfl
        ·
         decide
        ·
         rfl
       ·
        refine s_false rfl hb6 ?_
        refine aw_skip ?_
        refine b_norm ?_
        injection h with h
        subst h
        refine m_norm ?_
        apply w_conv hC []
        ·
         exact co
        ·
         rfl
        ·
         decide
        ·
         rfl
  refine s_in ?_
  refine s_reg ?_
  refine v_op hT hC rfl rfl rfl rfl trivial ?_
  refine Vc.nil ?_
  refine live [0, 3, 4] [] (s' := [_, _, _]) (o' := []) rfl rfl ?_
  obtain ⟨v6, hl, h⟩ := bnd_some h
  refine s_loop (fun v4 => ([(3, .sv (.int .i64 v4.1)), (4, .sv (.int .i64 v4.2))], [])) (fun v6 => ([(3, .sv (.int .i64 v6)), (0, .any), (4, .any)], [])) hl ?_ ?_ ?_
  ·
   try dsimp only
   apply w_conv hC []
   ·
    exact co
   ·
    rfl
   ·
    decide
   ·
    rfl
  ·
   intro v4 s hs
   have h := hs
   unfold spec_StepOf_l2 at h
   refine s_in ?_
   refine s_reg ?_
   iterate 2 refine v_op hT hC rfl rfl rfl rfl trivial ?_
   obtain ⟨hq, h⟩ := req_some h
   refine v_op hT hC rfl rfl rfl rfl hq ?_
   refine v_op hT hC rfl rfl rfl rfl trivial ?_
   refine Vc.nil ?_
   rcases sel_some h with ⟨hb9, h⟩ | ⟨hb9, h⟩
   ·
    refine s_true rfl hb9 ?_
    refine aw_skip ?_
    refine t_norm ?_
    refine s_in ?_
    refine s_block ?_
    refine aw_region ?_
    iterate 3 refine v_op hT hC rfl rfl rfl rfl trivial ?_
    refine Vc.nil ?_
    refine b_norm ?_
    refine t_norm ?_
    refine aw_region ?_
    iterate 3 refine v_op hT hC rfl rfl rfl rfl trivial ?_
    refine Vc.nil ?_
    injection h with h
    subst h
    refine r_go ?_
    try dsimp only
    apply w_conv hC []
    ·
     exact co
    ·
     rfl
    ·
     decide
    ·
     rfl
   ·
    refine s_false rfl hb9 ?_
    refine aw_exit ?_
    refine t_exit ?_
    injection h with h
    subst h
    refine r_exit ?_
    refine o_out ?_
    apply w_conv hC []
    ·
     exact co
    ·
     rfl
    ·
     decide
    ·
     rfl
  refine t_norm ?_
  refine s_reg ?_
  iterate 2 refine v_op hT hC rfl rfl rfl rfl trivial ?_
  refine Vc.nil ?_
  refine aw_ret ?_
  injection h with h
  subst h
  exact ends (Weak.refl _) rfl trivial
def spec_LargeBack_res (r : Int) : AV := .sv (.int .i64 r)
def spec_LargeBack_obs (r : Int) : Objs := []
theorem spec_LargeBack_ac {p0 : Int} {p1 : Int} {r : Int} (h : spec_LargeBack p0 p1 = some r) : AC Try.prog 158 [.sv (.int .i64 p0), .sv (.int .i64 p1)] [] (spec_LargeBack_res r) (spec_LargeBack_obs r) := by
 refine ac_of_body hT Try.func158 rfl fun C hC => ?_
 unfold spec_LargeBack at h
 refine s_reg ?_
 refine v_op hT hC rfl rfl rfl rfl trivial ?_
 refine Vc.nil ?_
 refine s_in ?_
 refine s_reg ?_
 refine v_op hT hC rfl rfl rfl rfl trivial ?_
 obtain ⟨q1, hq, h⟩ := bnd_some h
 refine v_call hC [] rfl rfl rfl rfl Try.call48 (spec_l01In_ac hq) rfl (by decide) trivial rfl (.inl rfl) rfl ?_
 refine v_op hT hC rfl rfl rfl rfl trivial ?_
 refine Vc.nil ?_
 rcases sel_some h with ⟨hb1, h⟩ | ⟨hb1, h⟩
 ·
  refine s_true rfl hb1 ?_
  refine s_reg ?_
  refine v_op hT hC rfl rfl rfl rfl trivial ?_
  refine Vc.nil ?_
  refine aw_ret ?_
  refine t_ret ?_
  injection h with h
  subst h
  exact ends (Weak.refl _) rfl trivial
 ·
  refine s_false rfl hb1 ?_
  refine aw_skip ?_
  refine t_norm ?_
  refine s_reg ?_
  iterate 2 refine v_op hT hC rfl rfl rfl rfl trivial ?_
  obtain ⟨q2, hq, h⟩ := bnd_some h
  refine v_call hC [] rfl rfl rfl rfl Try.call172 (spec_StepOf_ac hq) rfl (by decide) trivial rfl (.inl rfl) rfl ?_
  iterate 2 refine v_op hT hC rfl rfl rfl rfl trivial ?_
  refine Vc.nil ?_
  refine aw_ret ?_
  injection h with h
  subst h
  exact ends (Weak.refl _) rfl trivial
def spec_SignOf_res (r : Int) : AV := .sv (.int .i64 r)
def spec_SignOf_obs (r : Int) : Objs := []
theorem spec_SignOf_ac {p0 : Int} {p1 : Int} {r : Int} (h : spec_SignOf p0 p1 = some r) : AC Try.prog 180 [.sv (.int .i64 p0), .sv (.int .i64 p1)] [] (spec_SignOf_res r) (spec_SignOf_obs r) := by
 refine ac_of_body hT Try.func180 rfl fun C hC => ?_
 unfold spec_SignOf at h
 refine s_reg ?_
 refine v_op hT hC rfl rfl rfl rfl trivial ?_
 refine Vc.nil ?_
 refine s_in ?_
 refine live [0, 1] [] (s' := [_, _]) (o' := []) rfl rfl ?_
 obtain ⟨v1, h1, h⟩ := bnd_some h
 refine aw_to ([(14, .sv (.bool v1))], []) ?_ ?_
 ·
  have h := h1
  refine aw_region ?_
  refine v_op hT hC rfl rfl rfl rfl trivial ?_
  obtain ⟨q2, hq, h⟩ := bnd_some h
  refine v_call hC [] rfl rfl rfl rfl Try.call48 (spec_l01In_ac hq) rfl (by decide) trivial rfl (.inl rfl) rfl ?_
  iterate 2 refine v_op hT hC rfl rfl rfl rfl trivial ?_
  rcases sel_some h with ⟨hb1, h⟩ | ⟨hb1, h⟩
  ·
   refine v_on hT hC rfl rfl rfl rfl (congrArg Bool.not hb1) rfl rfl rfl trivial ?_
   obtain ⟨q3, hq, h⟩ := bnd_some h
   refine v_call_on hC [] rfl rfl rfl rfl (congrArg Bool.not hb1) rfl rfl rfl Try.call48 (spec_l01In_ac hq) rfl (by decide) trivial rfl (.inl rfl) rfl ?_
   refine v_on hT hC rfl rfl rfl rfl (congrArg Bool.not hb1) rfl rfl rfl trivial ?_
   refine v_pick hC rfl rfl rfl (b := false) (congrArg Bool.not hb1) rfl rfl rfl trivial ?_
   refine Vc.nil ?_
   injection h with h
   subst h
   refine m_norm ?_
   apply w_conv hC []
   ·
    exact co
   ·
    rfl
   ·
    decide
   ·
    rfl
  ·
   refine v_off hC rfl rfl rfl rfl (congrArg Bool.not hb1) rfl rfl ?_
   refine v_off hC rfl rfl rfl rfl (congrArg Bool.not hb1) rfl rfl ?_
   refine v_off hC rfl rfl rfl rfl (congrArg Bool.not hb1) rfl rfl ?_
   refine v_pick hC rfl rfl rfl (b := true) (congrArg Bool.not hb1) rfl rfl rfl trivial ?_
   refine Vc.nil ?_
   injection h with h
   subst h
   refine m_norm ?_
   apply w_conv hC []
   ·
    exact co
   ·
    rfl
   ·
    decide
   ·
    rfl
 rcases sel_some h with ⟨hb2, h⟩ | ⟨hb2, h⟩
 ·
  refine s_true rfl hb2 ?_
  refine s_reg ?_
  refine v_op hT hC rfl rfl rfl rfl trivial ?_
  refine Vc.nil ?_
  refine aw_ret ?_
  refine t_ret ?_
  injection h with h
  subst h
  exact ends (Weak.refl _) rfl trivial
 ·
  refine s_false rfl hb2 ?_
  refine aw_skip ?_
  refine t_norm ?_
  refine s_reg ?_
  refine v_op hT hC rfl rfl rfl rfl trivial ?_
  refine Vc.nil ?_
  refine s_in ?_
  refine s_reg ?_
  iterate 4 refine v_op hT hC rfl rfl rfl rfl trivial ?_
  refine Vc.nil ?_
  refine live [5, 6] [] (s' := [_, _]) (o' := []) rfl rfl ?_
  obtain ⟨v9, hl, h⟩ := bnd_some h
  refine s_loop (fun v6 => ([(5, .sv (.int .i64 v6.1)), (6, .sv (.int .i64 v6.2))], [])) (fun v9 => ([(5, .sv (.int .i64 v9)), (6, .any)], [])) hl ?_ ?_ ?_
  ·
   try dsimp only
   apply w_conv hC []
   ·
    exact co
   ·
    rfl
   ·
    decide
   ·
    rfl
  ·
   intro v6 s hs
   have h := hs
   unfold spec_SignOf_l2 at h
   refine s_in ?_
   refine s_reg ?_
   iterate 2 refine v_op hT hC rfl rfl rfl rfl trivial ?_
   refine Vc.nil ?_
   rcases sel_some h with ⟨hb7, h⟩ | ⟨hb7, h⟩
   ·
    refine s_true rfl hb7 ?_
    refine aw_skip ?_
    refine t_norm ?_
    refine live [5, 6] [] (s' := [_, _]) (o' := []) rfl rfl ?_
    obtain ⟨v10, h1, h⟩ := bnd_some h
    refine aw_to ([(5, .sv (.int .i64 v10))], []) ?_ ?_
    ·
     have h := h1
     refine s_block ?_
     refine s_reg ?_
     refine v_op hT hC rfl rfl rfl rfl trivial ?_
     obtain ⟨hq, h⟩ := req_some h
     refine v_op hT hC rfl rfl rfl rfl hq ?_
     refine v_op hT hC rfl rfl rfl rfl trivial ?_
     refine Vc.nil ?_
     rcases sel_some h with ⟨hb8, h⟩ | ⟨hb8, h⟩
     ·
      refine s_true rfl hb8 ?_
      refine aw_region ?_
      iterate 3 refine v_op hT hC rfl rfl rfl rfl trivial ?_
      refine Vc.nil ?_
      refine b_norm ?_
      injection h with h
      subst h
      refine m_norm ?_
      apply w_conv hC []
      ·
       exact co
      ·
       rfl
      ·
       decide
      ·
       rfl
     ·
      refine s_false rfl hb8 ?_
      refine aw_skip ?_
      refine b_norm ?_
      injection h with h
      subst h
      refine m_norm ?_
      apply w_conv hC []
      ·
       exact co
      ·
       rfl
      ·
       decide
      ·
       rfl
    refine aw_region ?_
    refine v_op hT hC rfl rfl rfl rfl trivial ?_
    obtain ⟨hq, h⟩ := req_some h
    refine v_op hT hC rfl rfl rfl rfl hq ?_
    refine v_op hT hC rfl rfl rfl rfl trivial ?_
    refine Vc.nil ?_
    injection h with h
    subst h
    refine r_go ?_
    try dsimp only
    apply w_conv hC []
    ·
     exact co
    ·
     rfl
    ·
     decide
    ·
     rfl
   ·
    refine s_false rfl hb7 ?_
    refine aw_exit ?_
    refine t_exit ?_
    injection h with h
    subst h
    refine r_exit ?_
    refine o_out ?_
    apply w_conv hC []
    ·
     exact co
    ·
     rfl
    ·
     decide
    ·
     rfl
  refine t_norm ?_
  refine s_reg ?_
  iterate 2 refine v_op hT hC rfl rfl rfl rfl trivial ?_
  refine Vc.nil ?_
  refine aw_ret ?_
  injection h with h
  subst h
  exact ends (Weak.refl _) rfl trivial
def spec_l10Row_res (r : Int) : AV := .sv (.int .i64 r)
def spec_l10Row_obs (r : Int) : Objs := []
theorem spec_l10Row_ac {p0 : (List Int)} {p1 : Int} {p2 : Int} {r : Int} (h : spec_l10Row p0 p1 p2 = some r) : AC Try.prog 179 [.sv (.ints .i64 p0), .sv (.int .i64 p1), .sv (.int .i64 p2)] [] (spec_l10Row_res r) (spec_l10Row_obs r) := by
 refine ac_of_body hT Try.func179 rfl fun C hC => ?_
 unfold spec_l10Row at h
 refine s_reg ?_
 refine v_op hT hC rfl rfl rfl rfl trivial ?_
 refine Vc.nil ?_
 refine s_reg ?_
 refine v_op hT hC rfl rfl rfl rfl trivial ?_
 refine Vc.nil ?_
 refine s_in ?_
 refine s_reg ?_
 refine v_op hT hC rfl rfl rfl rfl trivial ?_
 refine Vc.nil ?_
 refine live [0, 1, 2, 7, 8] [] (s' := [_, _, _, _, _]) (o' := []) rfl rfl ?_
 obtain ⟨v6, hl, h⟩ := bnd_some h
 refine s_loop (fun v3 => ([(7, .sv (.int .i64 v3.1)), (8, .sv (.int .i64 v3.2))], [])) (fun v6 => ([(7, .sv (.int .i64 v6)), (0, .any), (1, .any), (2, .any), (8, .any)], [])) hl ?_ ?_ ?_
 ·
  try dsimp only
  apply w_conv hC []
  ·
   exact co
  ·
   rfl
  ·
   decide
  ·
   rfl
 ·
  intro v3 s hs
  have h := hs
  unfold spec_l10Row_l2 at h
  refine s_in ?_
  refine s_reg ?_
  iterate 2 refine v_op hT hC rfl rfl rfl rfl trivial ?_
  refine Vc.nil ?_
  rcases sel_some h with ⟨hb3, h⟩ | ⟨hb3, h⟩
  ·
   refine s_true rfl hb3 ?_
   refine aw_skip ?_
   refine t_norm ?_
   refine s_in ?_
   refine s_block ?_
   refine aw_draw hm ?_
   iterate 6 refine v_op hT hC rfl rfl rfl rfl trivial ?_
   obtain ⟨hq, h⟩ := req_some h
   refine v_op hT hC rfl rfl rfl rfl hq ?_
   iterate 3 refine v_op hT hC rfl rfl rfl rfl trivial ?_
   obtain ⟨q7, hq, h⟩ := bnd_some h
   refine v_call hC [] rfl rfl rfl rfl Try.call180 (spec_SignOf_ac hq) rfl (by decide) trivial rfl (.inl rfl) rfl ?_
   iterate 3 refine v_op hT hC rfl rfl rfl rfl trivial ?_
   refine Vc.nil ⟨by kernel_rfl, ?_⟩
   refine b_norm ?_
   refine t_norm ?_
   refine aw_region ?_
   iterate 3 refine v_op hT hC rfl rfl rfl rfl trivial ?_
   refine Vc.nil ?_
   injection h with h
   subst h
   refine r_go ?_
   try dsimp only
   apply w_conv hC []
   ·
    exact co
   ·
    rfl
   ·
    decide
   ·
    rfl
  ·
   refine s_false rfl hb3 ?_
   refine aw_exit ?_
   refine t_exit ?_
   injection h with h
   subst h
   refine r_exit ?_
   refine o_out ?_
   apply w_conv hC []
   ·
    exact co
   ·
    rfl
   ·
    decide
   ·
    rfl
 refine t_norm ?_
 refine s_reg ?_
 iterate 2 refine v_op hT hC rfl rfl rfl rfl trivial ?_
 refine Vc.nil ?_
 refine aw_ret ?_
 injection h with h
 subst h
 exact ends (Weak.refl _) rfl trivial
def spec_l10Sums_res (r : (List Int)) : AV := .own 16
def spec_l10Sums_obs (r : (List Int)) : Objs := [(16, .ints .i64 r)]
theorem spec_l10Sums_ac {p0 : (List Int)} {r : (List Int)} (h : spec_l10Sums p0 = some r) : AC Try.prog 173 [.sv (.ints .i64 p0)] [] (spec_l10Sums_res r) (spec_l10Sums_obs r) := by
 refine ac_of_body hT Try.func173 rfl fun C hC => ?_
 unfold spec_l10Sums at h
 refine s_reg ?_
 refine v_op hT hC rfl rfl rfl rfl trivial ?_
 refine Vc.nil ?_
 refine s_reg ?_
 iterate 2 refine v_op hT hC rfl rfl rfl rfl trivial ?_
 refine Vc.nil ?_
 refine s_in ?_
 refine s_reg ?_
 refine v_op hT hC rfl rfl rfl rfl trivial ?_
 refine Vc.nil ?_
 refine live [0, 3, 4] [176] (s' := [_, _, _]) (o' := [_]) rfl rfl ?_
 obtain ⟨v20, hl, h⟩ := bnd_some h
 refine s_loop (fun v10 => ([(4, .sv (.int .i64 v10.1))], [(176, some (.ints .i64 v10.2))])) (fun v20 => ([(0, .any), (4, .any)], [(176, some (.ints .i64 v20))])) hl ?_ ?_ ?_
 ·
  try dsimp only
  apply w_conv hC []
  ·
   exact co
  ·
   rfl
  ·
   decide
  ·
   rfl
 ·
  intro v10 s hs
  have h := hs
  unfold spec_l10Sums_l12 at h
  refine s_in ?_
  refine s_reg ?_
  iterate 2 refine v_op hT hC rfl rfl rfl rfl trivial ?_
  refine Vc.nil ?_
  rcases sel_some h with ⟨hb9, h⟩ | ⟨hb9, h⟩
  ·
   refine s_true rfl hb9 ?_
   refine aw_skip ?_
   refine t_norm ?_
   refine s_in ?_
   refine s_block ?_
   refine s_reg ?_
   refine v_op hT hC rfl rfl rfl rfl trivial ?_
   refine Vc.nil ?_
   refine live [0, 3, 4, 5] [176] (s' := [_, _, _, _]) (o' := [_]) rfl rfl ?_
   obtain ⟨v26, hl, h⟩ := bnd_some h
   refine s_loop (fun v23 => ([(5, .sv (.int .i64 v23.1))], [(176, some (.ints .i64 v23.2))])) (fun v26 => ([(5, .any)], [(176, some (.ints .i64 v26))])) hl ?_ ?_ ?_
   ·
    try dsimp only
    apply w_conv hC []
    ·
     exact co
    ·
     rfl
    ·
     decide
    ·
     rfl
   ·
    intro v23 s hs
    have h := hs
    unfold spec_l10Sums_l14 at h
    refine s_in ?_
    refine s_reg ?_
    iterate 2 refine v_op hT hC rfl rfl rfl rfl trivial ?_
    refine Vc.nil ?_
    rcases sel_some h with ⟨hb12, h⟩ | ⟨hb12, h⟩
    ·
     refine s_true rfl hb12 ?_
     refine aw_skip ?_
     refine t_norm ?_
     refine s_in ?_
     refine s_block ?_
     refine aw_region ?_
     iterate 4 refine v_op hT hC rfl rfl rfl rfl trivial ?_
     obtain ⟨q27, hq, h⟩ := bnd_some h
     refine v_call hC [] rfl rfl rfl rfl Try.call179 (spec_l10Row_ac hq) rfl (by decide) trivial rfl (.inl rfl) rfl ?_
     refine v_op hT hC rfl rfl rfl rfl trivial ?_
     obtain ⟨hq, h⟩ := req_some h
     refine v_op hT hC rfl rfl rfl rfl ⟨trivial, hq⟩ ?_
     refine v_op hT hC rfl rfl rfl rfl trivial ?_
     refine Vc.nil ?_
     refine b_norm ?_
     refine t_norm ?_
     refine aw_region ?_
     iterate 3 refine v_op hT hC rfl rfl rfl rfl trivial ?_
     refine Vc.nil ?_
     injection h with h
     subst h
     refine r_go ?_
     try dsimp only
     apply w_conv hC [(176, 416)]
     ·
      exact co
     ·
      rfl
     ·
      decide
     ·
      rfl
    ·
     refine s_false rfl hb12 ?_
     refine aw_exit ?_
     refine t_exit ?_
     injection h with h
     subst h
     refine r_exit ?_
     refine o_out ?_
     apply w_conv hC []
     ·
      exact co
     ·
      rfl
     ·
      decide
     ·
      rfl
   refine b_norm ?_
   refine t_norm ?_
   refine aw_region ?_
   iterate 3 refine v_op hT hC rfl rfl rfl rfl trivial ?_
   refine Vc.nil ?_
   injection h with h
   subst h
   refine r_go ?_
   try dsimp only
   apply w_conv hC []
   ·
    exact co
   ·
    rfl
   ·
    decide
   ·
    rfl
  ·
   refine s_false rfl hb9 ?_
   refine aw_exit ?_
   refine t_exit ?_
   injection h with h
   subst h
   refine r_exit ?_
   refine o_out ?_
   apply w_conv hC []
   ·
    exact co
   ·
    rfl
   ·
    decide
   ·
    rfl
 refine t_norm ?_
 refine s_reg ?_
 iterate 2 refine v_op hT hC rfl rfl rfl rfl trivial ?_
 refine Vc.nil ?_
 refine s_in ?_
 refine s_reg ?_
 refine v_op hT hC rfl rfl rfl rfl trivial ?_
 refine Vc.nil ?_
 refine live [3, 6, 7] [176, 432] (s' := [_, _, _]) (o' := [_, _]) rfl rfl ?_
 obtain ⟨v91, hl, h⟩ := bnd_some h
 refine s_loop (fun v60 => ([(7, .sv (.int .i64 v60.1))], [(432, some (.ints .i64 v60.2))])) (fun v91 => ([(3, .any), (7, .any)], [(432, some (.ints .i64 v91)), (176, none)])) hl ?_ ?_ ?_
 ·
  try dsimp only
  apply w_conv hC []
  ·
   exact co
  ·
   rfl
  ·
   decide
  ·
   rfl
 ·
  intro v60 s hs
  have h := hs
  unfold spec_l10Sums_l146 at h
  refine s_in ?_
  refine s_reg ?_
  iterate 2 refine v_op hT hC rfl rfl rfl rfl trivial ?_
  refine Vc.nil ?_
  rcases sel_some h with ⟨hb39, h⟩ | ⟨hb39, h⟩
  ·
   refine s_true rfl hb39 ?_
   refine aw_skip ?_
   refine t_norm ?_
   refine s_in ?_
   refine s_block ?_
   refine s_reg ?_
   refine v_op hT hC rfl rfl rfl rfl trivial ?_
   refine Vc.nil ?_
   refine live [3, 6, 7, 8] [176, 432] (s' := [_, _, _, _]) (o' := [_, _]) rfl rfl ?_
   obtain ⟨v111, hl, h⟩ := bnd_some h
   refine s_loop (fun v101 => ([(8, .sv (.int .i64 v101.1))], [(432, some (.ints .i64 v101.2))])) (fun v111 => ([(8, .any)], [(432, some (.ints .i64 v111))])) hl ?_ ?_ ?_
   ·
    try dsimp only
    apply w_conv hC []
    ·
     exact co
    ·
     rfl
    ·
     decide
    ·
     rfl
   ·
    intro v101 s hs
    have h := hs
    unfold spec_l10Sums_l168 at h
    refine s_in ?_
    refine s_reg ?_
    iterate 2 refine v_op hT hC rfl rfl rfl rfl trivial ?_
    refine Vc.nil ?_
    rcases sel_some h with ⟨hb48, h⟩ | ⟨hb48, h⟩
    ·
     refine s_true rfl hb48 ?_
     refine aw_skip ?_
     refine t_norm ?_
     refine s_in ?_
     refine s_block ?_
     refine s_reg ?_
     refine v_op hT hC rfl rfl rfl rfl trivial ?_
     refine Vc.nil ?_
     refine s_in ?_
     refine s_reg ?_
     refine v_op hT hC rfl rfl rfl rfl trivial ?_
     refine Vc.nil ?_
     refine live [3, 6, 7, 8, 9, 10] [176, 432] (s' := [_, _, _, _, _, _]) (o' := [_, _]) rfl rfl ?_
     obtain ⟨v117, hl, h⟩ := bnd_some h
     refine s_loop (fun v114 => ([(9, .sv (.int .i64 v114.1)), (10, .sv (.int .i64 v114.2))], [])) (fun v117 => ([(9, .sv (.int .i64 v117)), (10, .any)], [])) hl ?_ ?_ ?_
     ·
      try dsimp only
      apply w_conv hC []
      ·
       exact co
      ·
       rfl
      ·
       decide
      ·
       rfl
     ·
      intro v114 s hs
      have h := hs
      unfold spec_l10Sums_l172 at h
      refine s_in ?_
      refine s_reg ?_
      iterate 2 refine v_op hT hC rfl rfl rfl rfl trivial ?_
      refine Vc.nil ?_
      rcases sel_some h with ⟨hb51, h⟩ | ⟨hb51, h⟩
      ·
       refine s_true rfl hb51 ?_
       refine aw_skip ?_
       refine t_norm ?_
       refine s_in ?_
       refine s_block ?_
       refine aw_draw hm ?_
       iterate 3 refine v_op hT hC rfl rfl rfl rfl trivial ?_
       obtain ⟨q118, hq, h⟩ := bnd_some h
       refine v_call hC [] rfl rfl rfl rfl Try.call180 (spec_SignOf_ac hq) rfl (by decide) trivial rfl (.inl rfl) rfl ?_
       iterate 5 refine v_op hT hC rfl rfl rfl rfl trivial ?_
       obtain ⟨hq, h⟩ := req_some h
       refine v_op hT hC rfl rfl rfl rfl hq ?_
       obtain ⟨hq, h⟩ := req_some h
       refine v_op hT hC rfl rfl rfl rfl hq ?_
       iterate 3 refine v_op hT hC rfl rfl rfl rfl trivial ?_
       refine Vc.nil ⟨by kernel_rfl, ?_⟩
       refine b_norm ?_
       refine t_norm ?_
       refine aw_region ?_
       iterate 3 refine v_op hT hC rfl rfl rfl rfl trivial ?_
       refine Vc.nil ?_
       injection h with h
       subst h
       refine r_go ?_
       try dsimp only
       apply w_conv hC []
       ·
        exact co
       ·
        rfl
       ·
        decide
       ·
        rfl
      ·
       refine s_false rfl hb51 ?_
       refine aw_exit ?_
       refine t_exit ?_
       injection h with h
       subst h
       refine r_exit ?_
       refine o_out ?_
       apply w_conv hC []
       ·
        exact co
       ·
        rfl
       ·
        decide
       ·
        rfl
     refine t_norm ?_
     refine aw_region ?_
     iterate 3 refine v_op hT hC rfl rfl rfl rfl trivial ?_
     obtain ⟨hq, h⟩ := req_some h
     refine v_op hT hC rfl rfl rfl rfl ⟨trivial, hq⟩ ?_
     refine v_op hT hC rfl rfl rfl rfl trivial ?_
     refine Vc.nil ?_
     refine b_norm ?_
     refine t_norm ?_
     refine aw_region ?_
     iterate 3 refine v_op hT hC rfl rfl rfl rfl trivial ?_
     refine Vc.nil ?_
     injection h with h
     subst h
     refine r_go ?_
     try dsimp only
     apply w_conv hC [(432, 896)]
     ·
      exact co
     ·
      rfl
     ·
      decide
     ·
      rfl
    ·
     refine s_false rfl hb48 ?_
     refine aw_exit ?_
     refine t_exit ?_
     injection h with h
     subst h
     refine r_exit ?_
     refine o_out ?_
     apply w_conv hC []
     ·
      exact co
     ·
      rfl
     ·
      decide
     ·
      rfl
   refine b_norm ?_
   refine t_norm ?_
   refine aw_region ?_
   iterate 3 refine v_op hT hC rfl rfl rfl rfl trivial ?_
   refine Vc.nil ?_
   injection h with h
   subst h
   refine r_go ?_
   try dsimp only
   apply w_conv hC []
   ·
    exact co
   ·
    rfl
   ·
    decide
   ·
    rfl
  ·
   refine s_false rfl hb39 ?_
   refine aw_exit ?_
   refine t_exit ?_
   injection h with h
   subst h
   refine r_exit ?_
   refine o_out ?_
   apply w_conv hC []
   ·
    exact co
   ·
    rfl
   ·
    decide
   ·
    rfl
 refine t_norm ?_
 refine s_reg ?_
 iterate 2 refine v_op hT hC rfl rfl rfl rfl trivial ?_
 refine Vc.nil ?_
 refine aw_ret ?_
 injection h with h
 subst h
 refine ends (τ := ⟨[(2, .own 16)], [(16, some (.ints .i64 v91))]⟩) ?_ rfl ⟨rfl, trivial⟩
 apply w_conv hC [(16, 432)]
 ·
  exact co
 ·
  rfl
 ·
  decide
 ·
  rfl
def spec_l09Down_res (r : Int) : AV := .sv (.int .i64 r)
def spec_l09Down_obs (r : Int) : Objs := []
theorem spec_l09Down_ac {p0 : Int} {p1 : Int} {r : Int} (h : spec_l09Down p0 p1 = some r) : AC Try.prog 174 [.sv (.int .i64 p0), .sv (.int .i64 p1)] [] (spec_l09Down_res r) (spec_l09Down_obs r) := by
 refine ac_of_body hT Try.func174 rfl fun C hC => ?_
 unfold spec_l09Down at h
 refine s_reg ?_
 refine v_op hT hC rfl rfl rfl rfl trivial ?_
 refine Vc.nil ?_
 refine s_reg ?_
 iterate 2 refine v_op hT hC rfl rfl rfl rfl trivial ?_
 obtain ⟨hq, h⟩ := req_some h
 refine v_op hT hC rfl rfl rfl rfl hq ?_
 refine v_op hT hC rfl rfl rfl rfl trivial ?_
 refine Vc.nil ?_
 refine live [0, 1, 5] [] (s' := [_, _, _]) (o' := []) rfl rfl ?_
 obtain ⟨v1, h1, h⟩ := bnd_some h
 refine aw_to ([(5, .sv (.int .i64 v1)), (0, .any), (1, .any)], []) ?_ ?_
 ·
  have h := h1
  refine s_reg ?_
  iterate 2 refine v_op hT hC rfl rfl rfl rfl trivial ?_
  obtain ⟨hq, h⟩ := req_some h
  refine v_op hT hC rfl rfl rfl rfl hq ?_
  refine v_op hT hC rfl rfl rfl rfl trivial ?_
  refine Vc.nil ?_
  rcases sel_some h with ⟨hb1, h⟩ | ⟨hb1, h⟩
  ·
   refine s_true rfl hb1 ?_
   refine aw_region ?_
   iterate 3 refine v_op hT hC rfl rfl rfl rfl trivial ?_
   refine Vc.nil ?_
   injection h with h
   subst h
   refine m_norm ?_
   apply w_conv hC []
   ·
    exact co
   ·
    rfl
   ·
    decide
   ·
    rfl
  ·
   refine s_false rfl hb1 ?_
   refine aw_skip ?_
   injection h with h
   subst h
   refine m_norm ?_
   apply w_conv hC []
   ·
    exact co
   ·
    rfl
   ·
    decide
   ·
    rfl
 refine s_reg ?_
 iterate 2 refine v_op hT hC rfl rfl rfl rfl trivial ?_
 refine Vc.nil ?_
 refine aw_ret ?_
 injection h with h
 subst h
 exact ends (Weak.refl _) rfl trivial
def spec_EightBack_res (r : (List Int)) : AV := .own 16
def spec_EightBack_obs (r : (List Int)) : Objs := [(16, .ints .i64 r)]
theorem spec_EightBack_ac {p0 : (List Int)} {r : (List Int)} (h : spec_EightBack p0 = some r) : AC Try.prog 159 [.sv (.ints .i64 p0)] [] (spec_EightBack_res r) (spec_EightBack_obs r) := by
 refine ac_of_body hT Try.func159 rfl fun C hC => ?_
 unfold spec_EightBack at h
 refine s_reg ?_
 refine v_op hT hC rfl rfl rfl rfl trivial ?_
 refine Vc.nil ?_
 refine s_in ?_
 refine s_reg ?_
 refine v_op hT hC rfl rfl rfl rfl trivial ?_
 obtain ⟨q1, hq, h⟩ := bnd_some h
 refine v_call hC [] rfl rfl rfl rfl Try.call156 (spec_l09All_ac hq) rfl (by decide) trivial rfl (.inl rfl) rfl ?_
 refine v_op hT hC rfl rfl rfl rfl trivial ?_
 refine Vc.nil ?_
 rcases sel_some h with ⟨hb1, h⟩ | ⟨hb1, h⟩
 ·
  refine s_true rfl hb1 ?_
  refine s_reg ?_
  iterate 2 refine v_op hT hC rfl rfl rfl rfl trivial ?_
  refine Vc.nil ?_
  refine aw_ret ?_
  refine t_ret ?_
  injection h with h
  subst h
  refine ends (τ := ⟨[(2, .own 16)], [(16, some (.ints .i64 ([] : List Int)))]⟩) ?_ rfl ⟨rfl, trivial⟩
  apply w_conv hC [(16, 128)]
  ·
   exact co
  ·
   rfl
  ·
   decide
  ·
   rfl
 ·
  refine s_false rfl hb1 ?_
  refine aw_skip ?_
  refine t_norm ?_
  refine s_reg ?_
  refine v_op hT hC rfl rfl rfl rfl trivial ?_
  obtain ⟨q2, hq, h⟩ := bnd_some h
  refine v_call hC [(16, 160)] rfl rfl rfl rfl Try.call173 (spec_l10Sums_ac hq) rfl (by decide) trivial rfl (.inl rfl) rfl ?_
  refine v_op hT hC rfl rfl rfl rfl trivial ?_
  refine Vc.nil ?_
  refine s_in ?_
  refine s_reg ?_
  refine v_op hT hC rfl rfl rfl rfl trivial ?_
  refine Vc.nil ?_
  refine live [3, 4] [160] (s' := [_, _]) (o' := [_]) rfl rfl ?_
  obtain ⟨v8, hl, h⟩ := bnd_some h
  refine s_loop (fun v5 => ([(4, .sv (.int .i64 v5.1))], [(160, some (.ints .i64 v5.2))])) (fun v8 => ([(4, .any)], [(160, some (.ints .i64 v8))])) hl ?_ ?_ ?_
  ·
   try dsimp only
   apply w_conv hC []
   ·
    exact co
   ·
    rfl
   ·
    decide
   ·
    rfl
  ·
   intro v5 s hs
   have h := hs
   unfold spec_EightBack_l2 at h
   refine s_in ?_
   refine s_reg ?_
   iterate 2 refine v_op hT hC rfl rfl rfl rfl trivial ?_
   refine Vc.nil ?_
   rcases sel_some h with ⟨hb4, h⟩ | ⟨hb4, h⟩
   ·
    refine s_true rfl hb4 ?_
    refine aw_skip ?_
    refine t_norm ?_
    refine s_in ?_
    refine s_block ?_
    refine aw_region ?_
    iterate 4 refine v_op hT hC rfl rfl rfl rfl trivial ?_
    obtain ⟨hq, h⟩ := req_some h
    refine v_op hT hC rfl rfl rfl rfl hq ?_
    obtain ⟨hq, h⟩ := req_some h
    refine v_op hT hC rfl rfl rfl rfl hq ?_
    refine v_op hT hC rfl rfl rfl rfl trivial ?_
    obtain ⟨q9, hq, h⟩ := bnd_some h
    refine v_call hC [] rfl rfl rfl rfl Try.call174 (spec_l09Down_ac hq) rfl (by decide) trivial rfl (.inl rfl) rfl ?_
    obtain ⟨hq, h⟩ := req_some h
    refine v_op hT hC rfl rfl rfl rfl hq ?_
    obtain ⟨hq, h⟩ := req_some h
    refine v_op hT hC rfl rfl rfl rfl hq ?_
    refine Vc.nil ?_
    refine b_norm ?_
    refine t_norm ?_
    refine aw_region ?_
    iterate 3 refine v_op hT hC rfl rfl rfl rfl trivial ?_
    refine Vc.nil ?_
    injection h with h
    subst h
    refine r_go ?_
    try dsimp only
    apply w_conv hC []
    ·
     exact co
    ·
     rfl
    ·
     decide
    ·
     rfl
   ·
    refine s_false rfl hb4 ?_
    refine aw_exit ?_
    refine t_exit ?_
    injection h with h
    subst h
    refine r_exit ?_
    refine o_out ?_
    apply w_conv hC []
    ·
     exact co
    ·
     rfl
    ·
     decide
    ·
     rfl
  refine t_norm ?_
  refine s_reg ?_
  iterate 2 refine v_op hT hC rfl rfl rfl rfl trivial ?_
  refine Vc.nil ?_
  refine aw_ret ?_
  injection h with h
  subst h
  refine ends (τ := ⟨[(2, .own 16)], [(16, some (.ints .i64 v8))]⟩) ?_ rfl ⟨rfl, trivial⟩
  apply w_conv hC [(16, 160)]
  ·
   exact co
  ·
   rfl
  ·
   decide
  ·
   rfl
def spec_KindOf_res (r : Int) : AV := .sv (.int .i64 r)
def spec_KindOf_obs (r : Int) : Objs := []
theorem spec_KindOf_ac {p0 : Int} {r : Int} (h : spec_KindOf p0 = some r) : AC Try.prog 181 [.sv (.int .i64 p0)] [] (spec_KindOf_res r) (spec_KindOf_obs r) := by
 refine ac_of_body hT Try.func181 rfl fun C hC => ?_
 unfold spec_KindOf at h
 refine s_reg ?_
 refine v_op hT hC rfl rfl rfl rfl trivial ?_
 refine Vc.nil ?_
 refine s_in ?_
 refine s_reg ?_
 refine v_op hT hC rfl rfl rfl rfl trivial ?_
 obtain ⟨q1, hq, h⟩ := bnd_some h
 refine v_call hC [] rfl rfl rfl rfl Try.call48 (spec_l01In_ac hq) rfl (by decide) trivial rfl (.inl rfl) rfl ?_
 refine v_op hT hC rfl rfl rfl rfl trivial ?_
 refine Vc.nil ?_
 rcases sel_some h with ⟨hb1, h⟩ | ⟨hb1, h⟩
 ·
  refine s_true rfl hb1 ?_
  refine s_reg ?_
  refine v_op hT hC rfl rfl rfl rfl trivial ?_
  refine Vc.nil ?_
  refine aw_ret ?_
  refine t_ret ?_
  injection h with h
  subst h
  exact ends (Weak.refl _) rfl trivial
 ·
  refine s_false rfl hb1 ?_
  refine aw_skip ?_
  refine t_norm ?_
  refine s_reg ?_
  refine v_op hT hC rfl rfl rfl rfl trivial ?_
  obtain ⟨hq, h⟩ := req_some h
  refine v_op hT hC rfl rfl rfl rfl hq ?_
  obtain ⟨hq, h⟩ := req_some h
  refine v_op hT hC rfl rfl rfl rfl hq ?_
  refine v_op hT hC rfl rfl rfl rfl trivial ?_
  refine Vc.nil ?_
  refine s_reg ?_
  refine v_op hT hC rfl rfl rfl rfl trivial ?_
  obtain ⟨hq, h⟩ := req_some h
  refine v_op hT hC rfl rfl rfl rfl hq ?_
  obtain ⟨hq, h⟩ := req_some h
  refine v_op hT hC rfl rfl rfl rfl hq ?_
  refine v_op hT hC rfl rfl rfl rfl trivial ?_
  refine Vc.nil ?_
  refine s_in ?_
  refine live [3, 4] [] (s' := [_, _]) (o' := []) rfl rfl ?_
  obtain ⟨v2, h1, h⟩ := bnd_some h
  refine aw_to ([(19, .sv (.bool v2))], []) ?_ ?_
  ·
   have h := h1
   refine aw_region ?_
   iterate 3 refine v_op hT hC rfl rfl rfl rfl trivial ?_
   rcases sel_some h with ⟨hb2, h⟩ | ⟨hb2, h⟩
   ·
    iterate 2 refine v_on hT hC rfl rfl rfl rfl hb2 rfl rfl rfl trivial ?_
    refine v_pick hC rfl rfl rfl (b := true) hb2 rfl rfl rfl trivial ?_
    refine Vc.nil ?_
    injection h with h
    subst h
    refine m_norm ?_
    apply w_conv hC []
    ·
     exact co
    ·
     rfl
    ·
     decide
    ·
     rfl
   ·
    refine v_off hC rfl rfl rfl rfl hb2 rfl rfl ?_
    refine v_off hC rfl rfl rfl rfl hb2 rfl rfl ?_
    refine v_pick hC rfl rfl rfl (b := false) hb2 rfl rfl rfl trivial ?_
    refine Vc.nil ?_
    injection h with h
    subst h
    refine m_norm ?_
    apply w_conv hC []
    ·
     exact co
    ·
     rfl
    ·
     decide
    ·
     rfl
  rcases sel_some h with ⟨hb3, h⟩ | ⟨hb3, h⟩
  ·
   refine s_true rfl hb3 ?_
   refine s_reg ?_
   refine v_op hT hC rfl rfl rfl rfl trivial ?_
   refine Vc.nil ?_
   refine aw_ret ?_
   refine t_ret ?_
   injection h with h
   subst h
   exact ends (Weak.refl _) rfl trivial
  ·
   refine s_false rfl hb3 ?_
   refine aw_skip ?_
   refine t_norm ?_
   refine s_in ?_
   refine live [3, 4] [] (s' := [_, _]) (o' := []) rfl rfl ?_
   obtain ⟨v3, h1, h⟩ := bnd_some h
   refine aw_to ([(25, .sv (.bool v3)), (3, .any), (4, .any)], []) ?_ ?_
   ·
    have h := h1
    refine aw_region ?_
    iterate 3 refine v_op hT hC rfl rfl rfl rfl trivial ?_
    rcases sel_some h with ⟨hb4, h⟩ | ⟨hb4, h⟩
    ·
     iterate 2 refine v_on hT hC rfl rfl rfl rfl hb4 rfl rfl rfl trivial ?_
     refine v_pick hC rfl rfl rfl (b := true) hb4 rfl rfl rfl trivial ?_
     refine Vc.nil ?_
     injection h with h
     subst h
     refine m_norm ?_
     apply w_conv hC []
     ·
      exact co
     ·
      rfl
     ·
      decide
     ·
      rfl
    ·
     refine v_off hC rfl rfl rfl rfl hb4 rfl rfl ?_
     refine v_off hC rfl rfl rfl rfl hb4 rfl rfl ?_
     refine v_pick hC rfl rfl rfl (b := false) hb4 rfl rfl rfl trivial ?_
     refine Vc.nil ?_
     injection h with h
     subst h
     refine m_norm ?_
     apply w_conv hC []
     ·
      exact co
     ·
      rfl
     ·
      decide
     ·
      rfl
   rcases sel_some h with ⟨hb5, h⟩ | ⟨hb5, h⟩
   ·
    refine s_true rfl hb5 ?_
    refine s_reg ?_
    refine v_op hT hC rfl rfl rfl rfl trivial ?_
    refine Vc.nil ?_
    refine aw_ret ?_
    refine t_ret ?_
    injection h with h
    subst h
    exact ends (Weak.refl _) rfl trivial
   ·
    refine s_false rfl hb5 ?_
    refine aw_skip ?_
    refine t_norm ?_
    refine s_reg ?_
    refine v_op hT hC rfl rfl rfl rfl trivial ?_
    refine Vc.nil ?_
    refine aw_ret ?_
    injection h with h
    subst h
    exact ends (Weak.refl _) rfl trivial
def spec_l08Pick_res (r : Int) : AV := .sv (.int .i64 r)
def spec_l08Pick_obs (r : Int) : Objs := []
theorem spec_l08Pick_ac {p0 : Int} {p1 : Int} {p2 : Int} {p3 : Int} {r : Int} (h : spec_l08Pick p0 p1 p2 p3 = some r) : AC Try.prog 182 [.sv (.int .i64 p0), .sv (.int .i64 p1), .sv (.int .i64 p2), .sv (.int .i64 p3)] [] (spec_l08Pick_res r) (spec_l08Pick_obs r) := by
 refine ac_of_body hT Try.func182 rfl fun C hC => ?_
 unfold spec_l08Pick at h
 refine s_reg ?_
 refine v_op hT hC rfl rfl rfl rfl trivial ?_
 refine Vc.nil ?_
 refine s_in ?_
 refine s_reg ?_
 refine v_op hT hC rfl rfl rfl rfl trivial ?_
 refine Vc.nil ?_
 refine s_block ?_
 refine s_reg ?_
 iterate 2 refine v_op hT hC rfl rfl rfl rfl trivial ?_
 refine Vc.nil ?_
 rcases sel_some h with ⟨hb1, h⟩ | ⟨hb1, h⟩
 ·
  refine s_true rfl hb1 ?_
  refine s_reg ?_
  iterate 2 refine v_op hT hC rfl rfl rfl rfl trivial ?_
  refine Vc.nil ?_
  refine aw_ret ?_
  refine b_ret ?_
  refine t_ret ?_
  injection h with h
  subst h
  exact ends (Weak.refl _) rfl trivial
 ·
  refine s_false rfl hb1 ?_
  refine s_reg ?_
  iterate 2 refine v_op hT hC rfl rfl rfl rfl trivial ?_
  refine Vc.nil ?_
  rcases sel_some h with ⟨hb2, h⟩ | ⟨hb2, h⟩
  ·
   refine s_true rfl hb2 ?_
   refine s_reg ?_
   iterate 2 refine v_op hT hC rfl rfl rfl rfl trivial ?_
   refine Vc.nil ?_
   refine aw_ret ?_
   refine b_ret ?_
   refine t_ret ?_
   injection h with h
   subst h
   exact ends (Weak.refl _) rfl trivial
  ·
   refine s_false rfl hb2 ?_
   refine aw_skip ?_
   refine b_norm ?_
   refine t_norm ?_
   refine s_reg ?_
   iterate 2 refine v_op hT hC rfl rfl rfl rfl trivial ?_
   refine Vc.nil ?_
   refine aw_ret ?_
   injection h with h
   subst h
   exact ends (Weak.refl _) rfl trivial
def spec_ScaleOf_res (r : Int) : AV := .sv (.int .i64 r)
def spec_ScaleOf_obs (r : Int) : Objs := []
theorem spec_ScaleOf_ac {p0 : Int} {p1 : Int} {r : Int} (h : spec_ScaleOf p0 p1 = some r) : AC Try.prog 175 [.sv (.int .i64 p0), .sv (.int .i64 p1)] [] (spec_ScaleOf_res r) (spec_ScaleOf_obs r) := by
 refine ac_of_body hT Try.func175 rfl fun C hC => ?_
 unfold spec_ScaleOf at h
 refine s_reg ?_
 refine v_op hT hC rfl rfl rfl rfl trivial ?_
 refine Vc.nil ?_
 refine s_reg ?_
 refine v_op hT hC rfl rfl rfl rfl trivial ?_
 obtain ⟨q1, hq, h⟩ := bnd_some h
 refine v_call hC [] rfl rfl rfl rfl Try.call181 (spec_KindOf_ac hq) rfl (by decide) trivial rfl (.inl rfl) rfl ?_
 refine v_op hT hC rfl rfl rfl rfl trivial ?_
 refine Vc.nil ?_
 refine s_in ?_
 refine live [0, 5] [] (s' := [_, _]) (o' := []) rfl rfl ?_
 obtain ⟨v2, h1, h⟩ := bnd_some h
 refine aw_to ([(16, .sv (.bool v2))], []) ?_ ?_
 ·
  have h := h1
  refine aw_region ?_
  refine v_op hT hC rfl rfl rfl rfl trivial ?_
  obtain ⟨q3, hq, h⟩ := bnd_some h
  refine v_call hC [] rfl rfl rfl rfl Try.call48 (spec_l01In_ac hq) rfl (by decide) trivial rfl (.inl rfl) rfl ?_
  iterate 2 refine v_op hT hC rfl rfl rfl rfl trivial ?_
  rcases sel_some h with ⟨hb1, h⟩ | ⟨hb1, h⟩
  ·
   iterate 2 refine v_on hT hC rfl rfl rfl rfl (congrArg Bool.not hb1) rfl rfl rfl trivial ?_
   refine v_pick hC rfl rfl rfl (b := false) (congrArg Bool.not hb1) rfl rfl rfl trivial ?_
   refine Vc.nil ?_
   injection h with h
   subst h
   refine m_norm ?_
   apply w_conv hC []
   ·
    exact co
   ·
    rfl
   ·
    decide
   ·
    rfl
  ·
   refine v_off hC rfl rfl rfl rfl (congrArg Bool.not hb1) rfl rfl ?_
   refine v_off hC rfl rfl rfl rfl (congrArg Bool.not hb1) rfl rfl ?_
   refine v_pick hC rfl rfl rfl (b := true) (congrArg Bool.not hb1) rfl rfl rfl trivial ?_
   refine Vc.nil ?_
   injection h with h
   subst h
   refine m_norm ?_
   apply w_conv hC []
   ·
    exact co
   ·
    rfl
   ·
    decide
   ·
    rfl
 rcases sel_some h with ⟨hb2, h⟩ | ⟨hb2, h⟩
 ·
  refine s_true rfl hb2 ?_
  refine s_reg ?_
  refine v_op hT hC rfl rfl rfl rfl trivial ?_
  refine Vc.nil ?_
  refine aw_ret ?_
  refine t_ret ?_
  injection h with h
  subst h
  exact ends (Weak.refl _) rfl trivial
 ·
  refine s_false rfl hb2 ?_
  refine aw_skip ?_
  refine t_norm ?_
  refine s_reg ?_
  refine v_op hT hC rfl rfl rfl rfl trivial ?_
  refine Vc.nil ?_
  refine live [0, 5, 6] [] (s' := [_, _, _]) (o' := []) rfl rfl ?_
  obtain ⟨v4, h1, h⟩ := bnd_some h
  refine aw_to ([(6, .sv (.int .i64 v4)), (5, .any)], []) ?_ ?_
  ·
   have h := h1
   refine s_reg ?_
   refine v_op hT hC rfl rfl rfl rfl trivial ?_
   obtain ⟨hq, h⟩ := req_some h
   refine v_op hT hC rfl rfl rfl rfl hq ?_
   refine Vc.nil ?_
   refine s_block ?_
   refine s_reg ?_
   iterate 2 refine v_op hT hC rfl rfl rfl rfl trivial ?_
   refine Vc.nil ?_
   rcases sel_some h with ⟨hb3, h⟩ | ⟨hb3, h⟩
   ·
    refine s_true rfl hb3 ?_
    refine aw_region ?_
    refine v_op hT hC rfl rfl rfl rfl trivial ?_
    obtain ⟨q5, hq, h⟩ := bnd_some h
    refine v_call hC [] rfl rfl rfl rfl Try.call182 (spec_l08Pick_ac hq) rfl (by decide) trivial rfl (.inl rfl) rfl ?_
    refine v_op hT hC rfl rfl rfl rfl trivial ?_
    refine Vc.nil ?_
    refine b_norm ?_
    injection h with h
    subst h
    refine m_norm ?_
    apply w_conv hC []
    ·
     exact co
    ·
     rfl
    ·
     decide
    ·
     rfl
   ·
    refine s_false rfl hb3 ?_
    refine s_reg ?_
    iterate 2 refine v_op hT hC rfl rfl rfl rfl trivial ?_
    refine Vc.nil ?_
    rcases sel_some h with ⟨hb4, h⟩ | ⟨hb4, h⟩
    ·
     refine s_true rfl hb4 ?_
     refine aw_region ?_
     refine v_op hT hC rfl rfl rfl rfl trivial ?_
     obtain ⟨q6, hq, h⟩ := bnd_some h
     refine v_call hC [] rfl rfl rfl rfl Try.call182 (spec_l08Pick_ac hq) rfl (by decide) trivial rfl (.inl rfl) rfl ?_
     refine v_op hT hC rfl rfl rfl rfl trivial ?_
     refine Vc.nil ?_
     refine b_norm ?_
     injection h with h
     subst h
     refine m_norm ?_
     apply w_conv hC []
     ·
      exact co
     ·
      rfl
     ·
      decide
     ·
      rfl
    ·
     refine s_false rfl hb4 ?_
     refine s_reg ?_
     iterate 2 refine v_op hT hC rfl rfl rfl rfl trivial ?_
     refine Vc.nil ?_
     rcases sel_some h with ⟨hb5, h⟩ | ⟨hb5, h⟩
     ·
      refine s_true rfl hb5 ?_
      refine aw_region ?_
      refine v_op hT hC rfl rfl rfl rfl trivial ?_
      obtain ⟨q7, hq, h⟩ := bnd_some h
      refine v_call hC [] rfl rfl rfl rfl Try.call182 (spec_l08Pick_ac hq) rfl (by decide) trivial rfl (.inl rfl) rfl ?_
      refine v_op hT hC rfl rfl rfl rfl trivial ?_
      refine Vc.nil ?_
      refine b_norm ?_
      injection h with h
      subst h
      refine m_norm ?_
      apply w_conv hC []
      ·
       exact co
      ·
       rfl
      ·
       decide
      ·
       rfl
     ·
      refine s_false rfl hb5 ?_
      refine s_reg ?_
      iterate 2 refine v_op hT hC rfl rfl rfl rfl trivial ?_
      refine Vc.nil ?_
      rcases sel_some h with ⟨hb6, h⟩ | ⟨hb6, h⟩
      ·
       refine s_true rfl hb6 ?_
       refine aw_region ?_
       refine v_op hT hC rfl rfl rfl rfl trivial ?_
       obtain ⟨q8, hq, h⟩ := bnd_some h
       refine v_call hC [] rfl rfl rfl rfl Try.call182 (spec_l08Pick_ac hq) rfl (by decide) trivial rfl (.inl rfl) rfl ?_
       refine v_op hT hC rfl rfl rfl rfl trivial ?_
       refine Vc.nil ?_
       refine b_norm ?_
       injection h with h
       subst h
       refine m_norm ?_
       apply w_conv hC []
       ·
        exact co
       ·
        rfl
       ·
        decide
       ·
        rfl
      ·
       refine s_false rfl hb6 ?_
       refine s_reg ?_
       iterate 2 refine v_op hT hC rfl rfl rfl rfl trivial ?_
       refine Vc.nil ?_
       rcases sel_some h with ⟨hb7, h⟩ | ⟨hb7, h⟩
       ·
        refine s_true rfl hb7 ?_
        refine aw_region ?_
        refine v_op hT hC rfl rfl rfl rfl trivial ?_
        obtain ⟨q9, hq, h⟩ := bnd_some h
        refine v_call hC [] rfl rfl rfl rfl Try.call182 (spec_l08Pick_ac hq) rfl (by decide) trivial rfl (.inl rfl) rfl ?_
        refine v_op hT hC rfl rfl rfl rfl trivial ?_
        refine Vc.nil ?_
        refine b_norm ?_
        injection h with h
        subst h
        refine m_norm ?_
        apply w_conv hC []
        ·
         exact co
        ·
         rfl
        ·
         decide
        ·
         rfl
       ·
        refine s_false rfl hb7 ?_
        refine s_reg ?_
        iterate 2 refine v_op hT hC rfl rfl rfl rfl trivial ?_
        refine Vc.nil ?_
        rcases sel_some h with ⟨hb8, h⟩ | ⟨hb8, h⟩
        ·
         refine s_true rfl hb8 ?_
         refine aw_region ?_
         refine v_op hT hC rfl rfl rfl rfl trivial ?_
         obtain ⟨q10, hq, h⟩ := bnd_some h
         refine v_call hC [] rfl rfl rfl rfl Try.call182 (spec_l08Pick_ac hq) rfl (by decide) trivial rfl (.inl rfl) rfl ?_
         refine v_op hT hC rfl rfl rfl rfl trivial ?_
         refine Vc.nil ?_
         refine b_norm ?_
         injection h with h
         subst h
         refine m_norm ?_
         apply w_conv hC []
         ·
          exact co
         ·
          rfl
         ·
          decide
         ·
          rfl
        ·
         refine s_false rfl hb8 ?_
         refine aw_skip ?_
         refine b_norm ?_
         injection h with h
         subst h
         refine m_norm ?_
         apply w_conv hC []
         ·
          exact co
         ·
          rfl
         ·
          decide
         ·
          rfl
  refine s_in ?_
  refine s_reg ?_
  refine v_op hT hC rfl rfl rfl rfl trivial ?_
  refine Vc.nil ?_
  refine live [0, 6, 7] [] (s' := [_, _, _]) (o' := []) rfl rfl ?_
  obtain ⟨v14, hl, h⟩ := bnd_some h
  refine s_loop (fun v12 => ([(6, .sv (.int .i64 v12.1)), (7, .sv (.int .i64 v12.2))], [])) (fun v14 => ([(6, .sv (.int .i64 v14)), (0, .any), (7, .any)], [])) hl ?_ ?_ ?_
  ·
   try dsimp only
   apply w_conv hC []
   ·
    exact co
   ·
    rfl
   ·
    decide
   ·
    rfl
  ·
   intro v12 s hs
   have h := hs
   unfold spec_ScaleOf_l2 at h
   refine s_in ?_
   refine s_reg ?_
   iterate 2 refine v_op hT hC rfl rfl rfl rfl trivial ?_
   obtain ⟨hq, h⟩ := req_some h
   refine v_op hT hC rfl rfl rfl rfl hq ?_
   refine v_op hT hC rfl rfl rfl rfl trivial ?_
   refine Vc.nil ?_
   rcases sel_some h with ⟨hb11, h⟩ | ⟨hb11, h⟩
   ·
    refine s_true rfl hb11 ?_
    refine aw_skip ?_
    refine t_norm ?_
    refine s_in ?_
    refine s_block ?_
    refine aw_region ?_
    iterate 3 refine v_op hT hC rfl rfl rfl rfl trivial ?_
    refine Vc.nil ?_
    refine b_norm ?_
    refine t_norm ?_
    refine aw_region ?_
    iterate 3 refine v_op hT hC rfl rfl rfl rfl trivial ?_
    refine Vc.nil ?_
    injection h with h
    subst h
    refine r_go ?_
    try dsimp only
    apply w_conv hC []
    ·
     exact co
    ·
     rfl
    ·
     decide
    ·
     rfl
   ·
    refine s_false rfl hb11 ?_
    refine aw_exit ?_
    refine t_exit ?_
    injection h with h
    subst h
    refine r_exit ?_
    refine o_out ?_
    apply w_conv hC []
    ·
     exact co
    ·
     rfl
    ·
     decide
    ·
     rfl
  refine t_norm ?_
  refine s_reg ?_
  iterate 2 refine v_op hT hC rfl rfl rfl rfl trivial ?_
  refine Vc.nil ?_
  refine aw_ret ?_
  injection h with h
  subst h
  exact ends (Weak.refl _) rfl trivial
def spec_SmallBack_res (r : Int) : AV := .sv (.int .i64 r)
def spec_SmallBack_obs (r : Int) : Objs := []
theorem spec_SmallBack_ac {p0 : Int} {p1 : Int} {p2 : Int} {r : Int} (h : spec_SmallBack p0 p1 p2 = some r) : AC Try.prog 160 [.sv (.int .i64 p0), .sv (.int .i64 p1), .sv (.int .i64 p2)] [] (spec_SmallBack_res r) (spec_SmallBack_obs r) := by
 refine ac_of_body hT Try.func160 rfl fun C hC => ?_
 unfold spec_SmallBack at h
 refine s_reg ?_
 refine v_op hT hC rfl rfl rfl rfl trivial ?_
 refine Vc.nil ?_
 refine s_in ?_
 refine s_reg ?_
 refine v_op hT hC rfl rfl rfl rfl trivial ?_
 obtain ⟨q1, hq, h⟩ := bnd_some h
 refine v_call hC [] rfl rfl rfl rfl Try.call48 (spec_l01In_ac hq) rfl (by decide) trivial rfl (.inl rfl) rfl ?_
 refine v_op hT hC rfl rfl rfl rfl trivial ?_
 refine Vc.nil ?_
 rcases sel_some h with ⟨hb1, h⟩ | ⟨hb1, h⟩
 ·
  refine s_true rfl hb1 ?_
  refine s_reg ?_
  refine v_op hT hC rfl rfl rfl rfl trivial ?_
  refine Vc.nil ?_
  refine aw_ret ?_
  refine t_ret ?_
  injection h with h
  subst h
  exact ends (Weak.refl _) rfl trivial
 ·
  refine s_false rfl hb1 ?_
  refine aw_skip ?_
  refine t_norm ?_
  refine s_reg ?_
  iterate 3 refine v_op hT hC rfl rfl rfl rfl trivial ?_
  obtain ⟨q2, hq, h⟩ := bnd_some h
  refine v_call hC [] rfl rfl rfl rfl Try.call175 (spec_ScaleOf_ac hq) rfl (by decide) trivial rfl (.inl rfl) rfl ?_
  iterate 2 refine v_op hT hC rfl rfl rfl rfl trivial ?_
  refine Vc.nil ?_
  refine aw_ret ?_
  injection h with h
  subst h
  exact ends (Weak.refl _) rfl trivial
def spec_l09Backs_res (r : (List Int)) : AV := .own 16
def spec_l09Backs_obs (r : (List Int)) : Objs := [(16, .ints .i64 r)]
theorem spec_l09Backs_ac {p0 : (List Int)} {r : (List Int)} (h : spec_l09Backs p0 = some r) : AC Try.prog 177 [.sv (.ints .i64 p0)] [] (spec_l09Backs_res r) (spec_l09Backs_obs r) := by
 refine ac_of_body hT Try.func177 rfl fun C hC => ?_
 unfold spec_l09Backs at h
 refine s_reg ?_
 refine v_op hT hC rfl rfl rfl rfl trivial ?_
 refine Vc.nil ?_
 refine s_reg ?_
 iterate 2 refine v_op hT hC rfl rfl rfl rfl trivial ?_
 refine Vc.nil ?_
 refine s_in ?_
 refine s_reg ?_
 refine v_op hT hC rfl rfl rfl rfl trivial ?_
 refine Vc.nil ?_
 refine live [0, 3, 4] [208] (s' := [_, _, _]) (o' := [_]) rfl rfl ?_
 obtain ⟨v8, hl, h⟩ := bnd_some h
 refine s_loop (fun v4 => ([(4, .sv (.int .i64 v4.1))], [(208, some (.ints .i64 v4.2))])) (fun v8 => ([(0, .any), (4, .any)], [(208, some (.ints .i64 v8))])) hl ?_ ?_ ?_
 ·
  try dsimp only
  apply w_conv hC []
  ·
   exact co
  ·
   rfl
  ·
   decide
  ·
   rfl
 ·
  intro v4 s hs
  have h := hs
  unfold spec_l09Backs_l2 at h
  refine s_in ?_
  refine s_reg ?_
  iterate 2 refine v_op hT hC rfl rfl rfl rfl trivial ?_
  refine Vc.nil ?_
  rcases sel_some h with ⟨hb3, h⟩ | ⟨hb3, h⟩
  ·
   refine s_true rfl hb3 ?_
   refine aw_skip ?_
   refine t_norm ?_
   refine s_in ?_
   refine s_block ?_
   refine s_reg ?_
   iterate 3 refine v_op hT hC rfl rfl rfl rfl trivial ?_
   obtain ⟨hq, h⟩ := req_some h
   refine v_op hT hC rfl rfl rfl rfl hq ?_
   iterate 2 refine v_op hT hC rfl rfl rfl rfl trivial ?_
   refine Vc.nil ?_
   refine s_reg ?_
   iterate 4 refine v_op hT hC rfl rfl rfl rfl trivial ?_
   obtain ⟨hq, h⟩ := req_some h
   refine v_op hT hC rfl rfl rfl rfl hq ?_
   iterate 2 refine v_op hT hC rfl rfl rfl rfl trivial ?_
   refine Vc.nil ?_
   refine s_reg ?_
   iterate 4 refine v_op hT hC rfl rfl rfl rfl trivial ?_
   obtain ⟨hq, h⟩ := req_some h
   refine v_op hT hC rfl rfl rfl rfl hq ?_
   iterate 2 refine v_op hT hC rfl rfl rfl rfl trivial ?_
   refine Vc.nil ?_
   refine s_reg ?_
   iterate 4 refine v_op hT hC rfl rfl rfl rfl trivial ?_
   obtain ⟨hq, h⟩ := req_some h
   refine v_op hT hC rfl rfl rfl rfl hq ?_
   iterate 2 refine v_op hT hC rfl rfl rfl rfl trivial ?_
   refine Vc.nil ?_
   refine s_reg ?_
   iterate 4 refine v_op hT hC rfl rfl rfl rfl trivial ?_
   refine Vc.nil ?_
   refine s_reg ?_
   iterate 4 refine v_op hT hC rfl rfl rfl rfl trivial ?_
   refine Vc.nil ?_
   refine s_reg ?_
   refine v_op hT hC rfl rfl rfl rfl trivial ?_
   obtain ⟨q9, hq, h⟩ := bnd_some h
   refine v_call hC [] rfl rfl rfl rfl Try.call174 (spec_l09Down_ac hq) rfl (by decide) trivial rfl (.inl rfl) rfl ?_
   iterate 3 refine v_op hT hC rfl rfl rfl rfl trivial ?_
   refine Vc.nil ?_
   refine s_reg ?_
   iterate 2 refine v_op hT hC rfl rfl rfl rfl trivial ?_
   obtain ⟨q10, hq, h⟩ := bnd_some h
   refine v_call hC [] rfl rfl rfl rfl Try.call174 (spec_l09Down_ac hq) rfl (by decide) trivial rfl (.inl rfl) rfl ?_
   iterate 2 refine v_op hT hC rfl rfl rfl rfl trivial ?_
   refine Vc.nil ?_
   refine aw_region ?_
   iterate 14 refine v_op hT hC rfl rfl rfl rfl trivial ?_
   obtain ⟨hq, h⟩ := req_some h
   refine v_op hT hC rfl rfl rfl rfl ⟨trivial, hq⟩ ?_
   refine v_op hT hC rfl rfl rfl rfl trivial ?_
   refine Vc.nil ?_
   refine b_norm ?_
   refine t_norm ?_
   refine aw_region ?_
   iterate 3 refine v_op hT hC rfl rfl rfl rfl trivial ?_
   refine Vc.nil ?_
   injection h with h
   subst h
   refine r_go ?_
   try dsimp only
   apply w_conv hC [(208, 1104)]
   ·
    exact co
   ·
    rfl
   ·
    decide
   ·
    rfl
  ·
   refine s_false rfl hb3 ?_
   refine aw_exit ?_
   refine t_exit ?_
   injection h with h
   subst h
   refine r_exit ?_
   refine o_out ?_
   apply w_conv hC []
   ·
    exact co
   ·
    rfl
   ·
    decide
   ·
    rfl
 refine t_norm ?_
 refine s_reg ?_
 iterate 2 refine v_op hT hC rfl rfl rfl rfl trivial ?_
 refine Vc.nil ?_
 refine aw_ret ?_
 injection h with h
 subst h
 refine ends (τ := ⟨[(2, .own 16)], [(16, some (.ints .i64 v8))]⟩) ?_ rfl ⟨rfl, trivial⟩
 apply w_conv hC [(16, 208)]
 ·
  exact co
 ·
  rfl
 ·
  decide
 ·
  rfl
def spec_l09Flip_res (r : (List Int)) : AV := .own 16
def spec_l09Flip_obs (r : (List Int)) : Objs := [(16, .ints .i64 r)]
theorem spec_l09Flip_ac {p0 : (List Int)} {r : (List Int)} (h : spec_l09Flip p0 = some r) : AC Try.prog 176 [.sv (.ints .i64 p0)] [] (spec_l09Flip_res r) (spec_l09Flip_obs r) := by
 refine ac_of_body hT Try.func176 rfl fun C hC => ?_
 unfold spec_l09Flip at h
 refine s_reg ?_
 refine v_op hT hC rfl rfl rfl rfl trivial ?_
 refine Vc.nil ?_
 refine s_reg ?_
 obtain ⟨hq, h⟩ := req_some h
 refine v_op hT hC rfl rfl rfl rfl ⟨hq.1, hq.2.1, hq.2.2, by decide⟩ ?_
 refine v_op hT hC rfl rfl rfl rfl trivial ?_
 refine Vc.nil ?_
 refine s_in ?_
 refine s_reg ?_
 refine v_op hT hC rfl rfl rfl rfl trivial ?_
 refine Vc.nil ?_
 refine live [0, 3, 4] [80] (s' := [_, _, _]) (o' := [_]) rfl rfl ?_
 obtain ⟨v4, hl, h⟩ := bnd_some h
 refine s_loop (fun v2 => ([(4, .sv (.int .i64 v2.1))], [(80, some (.ints .i64 v2.2))])) (fun v4 => ([(0, .any), (4, .any)], [(80, some (.ints .i64 v4))])) hl ?_ ?_ ?_
 ·
  try dsimp only
  apply w_conv hC []
  ·
   exact co
  ·
   rfl
  ·
   decide
  ·
   rfl
 ·
  intro v2 s hs
  have h := hs
  unfold spec_l09Flip_l2 at h
  refine s_in ?_
  refine s_reg ?_
  iterate 2 refine v_op hT hC rfl rfl rfl rfl trivial ?_
  refine Vc.nil ?_
  rcases sel_some h with ⟨hb3, h⟩ | ⟨hb3, h⟩
  ·
   refine s_true rfl hb3 ?_
   refine aw_skip ?_
   refine t_norm ?_
   refine s_in ?_
   refine s_block ?_
   refine aw_region ?_
   iterate 2 refine v_op hT hC rfl rfl rfl rfl trivial ?_
   obtain ⟨hq, h⟩ := req_some h
   refine v_op hT hC rfl rfl rfl rfl hq ?_
   iterate 2 refine v_op hT hC rfl rfl rfl rfl trivial ?_
   obtain ⟨hq, h⟩ := req_some h
   refine v_op hT hC rfl rfl rfl rfl hq ?_
   iterate 3 refine v_op hT hC rfl rfl rfl rfl trivial ?_
   obtain ⟨hq, h⟩ := req_some h
   refine v_op hT hC rfl rfl rfl rfl hq ?_
   refine v_op hT hC rfl rfl rfl rfl trivial ?_
   obtain ⟨hq, h⟩ := req_some h
   refine v_op hT hC rfl rfl rfl rfl hq ?_
   obtain ⟨hq, h⟩ := req_some h
   refine v_op hT hC rfl rfl rfl rfl hq ?_
   refine Vc.nil ?_
   refine b_norm ?_
   refine t_norm ?_
   refine aw_region ?_
   iterate 3 refine v_op hT hC rfl rfl rfl rfl trivial ?_
   refine Vc.nil ?_
   injection h with h
   subst h
   refine r_go ?_
   try dsimp only
   apply w_conv hC []
   ·
    exact co
   ·
    rfl
   ·
    decide
   ·
    rfl
  ·
   refine s_false rfl hb3 ?_
   refine aw_exit ?_
   refine t_exit ?_
   injection h with h
   subst h
   refine r_exit ?_
   refine o_out ?_
   apply w_conv hC []
   ·
    exact co
   ·
    rfl
   ·
    decide
   ·
    rfl
 refine t_norm ?_
 refine s_reg ?_
 iterate 2 refine v_op hT hC rfl rfl rfl rfl trivial ?_
 refine Vc.nil ?_
 refine aw_ret ?_
 injection h with h
 subst h
 refine ends (τ := ⟨[(2, .own 16)], [(16, some (.ints .i64 v4))]⟩) ?_ rfl ⟨rfl, trivial⟩
 apply w_conv hC [(16, 80)]
 ·
  exact co
 ·
  rfl
 ·
  decide
 ·
  rfl
def spec_FourBack_res (r : (List Int)) : AV := .own 16
def spec_FourBack_obs (r : (List Int)) : Objs := [(16, .ints .i64 r)]
theorem spec_FourBack_ac {p0 : (List Int)} {r : (List Int)} (h : spec_FourBack p0 = some r) : AC Try.prog 161 [.sv (.ints .i64 p0)] [] (spec_FourBack_res r) (spec_FourBack_obs r) := by
 refine ac_of_body hT Try.func161 rfl fun C hC => ?_
 unfold spec_FourBack at h
 refine s_reg ?_
 refine v_op hT hC rfl rfl rfl rfl trivial ?_
 refine Vc.nil ?_
 refine s_in ?_
 refine s_reg ?_
 refine v_op hT hC rfl rfl rfl rfl trivial ?_
 obtain ⟨q1, hq, h⟩ := bnd_some h
 refine v_call hC [] rfl rfl rfl rfl Try.call156 (spec_l09All_ac hq) rfl (by decide) trivial rfl (.inl rfl) rfl ?_
 refine v_op hT hC rfl rfl rfl rfl trivial ?_
 refine Vc.nil ?_
 rcases sel_some h with ⟨hb1, h⟩ | ⟨hb1, h⟩
 ·
  refine s_true rfl hb1 ?_
  refine s_reg ?_
  iterate 2 refine v_op hT hC rfl rfl rfl rfl trivial ?_
  refine Vc.nil ?_
  refine aw_ret ?_
  refine t_ret ?_
  injection h with h
  subst h
  refine ends (τ := ⟨[(2, .own 16)], [(16, some (.ints .i64 ([] : List Int)))]⟩) ?_ rfl ⟨rfl, trivial⟩
  apply w_conv hC [(16, 128)]
  ·
   exact co
  ·
   rfl
  ·
   decide
  ·
   rfl
 ·
  refine s_false rfl hb1 ?_
  refine aw_skip ?_
  refine t_norm ?_
  refine s_reg ?_
  refine v_op hT hC rfl rfl rfl rfl trivial ?_
  obtain ⟨q2, hq, h⟩ := bnd_some h
  refine v_call hC [(16, 160)] rfl rfl rfl rfl Try.call177 (spec_l09Backs_ac hq) rfl (by decide) trivial rfl (.inl rfl) rfl ?_
  obtain ⟨q3, hq, h⟩ := bnd_some h
  refine v_call hC [(16, 176)] rfl rfl rfl rfl Try.call176 (spec_l09Flip_ac hq) rfl (by decide) trivial rfl (.inr ⟨rfl, ⟨trivial, trivial⟩⟩) rfl ?_
  obtain ⟨q4, hq, h⟩ := bnd_some h
  refine v_call hC [(16, 192)] rfl rfl rfl rfl Try.call177 (spec_l09Backs_ac hq) rfl (by decide) trivial rfl (.inr ⟨rfl, ⟨trivial, trivial⟩⟩) rfl ?_
  obtain ⟨q5, hq, h⟩ := bnd_some h
  refine v_call hC [(16, 208)] rfl rfl rfl rfl Try.call176 (spec_l09Flip_ac hq) rfl (by decide) trivial rfl (.inr ⟨rfl, ⟨trivial, trivial⟩⟩) rfl ?_
  refine v_op hT hC rfl rfl rfl rfl trivial ?_
  refine Vc.nil ?_
  refine s_in ?_
  refine s_reg ?_
  refine v_op hT hC rfl rfl rfl rfl trivial ?_
  refine Vc.nil ?_
  refine live [3, 4] [208] (s' := [_, _]) (o' := [_]) rfl rfl ?_
  obtain ⟨v11, hl, h⟩ := bnd_some h
  refine s_loop (fun v8 => ([(4, .sv (.int .i64 v8.1))], [(208, some (.ints .i64 v8.2))])) (fun v11 => ([(4, .any)], [(208, some (.ints .i64 v11))])) hl ?_ ?_ ?_
  ·
   try dsimp only
   apply w_conv hC []
   ·
    exact co
   ·
    rfl
   ·
    decide
   ·
    rfl
  ·
   intro v8 s hs
   have h := hs
   unfold spec_FourBack_l2 at h
   refine s_in ?_
   refine s_reg ?_
   iterate 2 refine v_op hT hC rfl rfl rfl rfl trivial ?_
   refine Vc.nil ?_
   rcases sel_some h with ⟨hb4, h⟩ | ⟨hb4, h⟩
   ·
    refine s_true rfl hb4 ?_
    refine aw_skip ?_
    refine t_norm ?_
    refine s_in ?_
    refine s_block ?_
    refine aw_region ?_
    iterate 4 refine v_op hT hC rfl rfl rfl rfl trivial ?_
    obtain ⟨hq, h⟩ := req_some h
    refine v_op hT hC rfl rfl rfl rfl hq ?_
    obtain ⟨hq, h⟩ := req_some h
    refine v_op hT hC rfl rfl rfl rfl hq ?_
    refine v_op hT hC rfl rfl rfl rfl trivial ?_
    obtain ⟨q12, hq, h⟩ := bnd_some h
    refine v_call hC [] rfl rfl rfl rfl Try.call174 (spec_l09Down_ac hq) rfl (by decide) trivial rfl (.inl rfl) rfl ?_
    obtain ⟨hq, h⟩ := req_some h
    refine v_op hT hC rfl rfl rfl rfl hq ?_
    obtain ⟨hq, h⟩ := req_some h
    refine v_op hT hC rfl rfl rfl rfl hq ?_
    refine Vc.nil ?_
    refine b_norm ?_
    refine t_norm ?_
    refine aw_region ?_
    iterate 3 refine v_op hT hC rfl rfl rfl rfl trivial ?_
    refine Vc.nil ?_
    injection h with h
    subst h
    refine r_go ?_
    try dsimp only
    apply w_conv hC []
    ·
     exact co
    ·
     rfl
    ·
     decide
    ·
     rfl
   ·
    refine s_false rfl hb4 ?_
    refine aw_exit ?_
    refine t_exit ?_
    injection h with h
    subst h
    refine r_exit ?_
    refine o_out ?_
    apply w_conv hC []
    ·
     exact co
    ·
     rfl
    ·
     decide
    ·
     rfl
  refine t_norm ?_
  refine s_reg ?_
  iterate 2 refine v_op hT hC rfl rfl rfl rfl trivial ?_
  refine Vc.nil ?_
  refine aw_ret ?_
  injection h with h
  subst h
  refine ends (τ := ⟨[(2, .own 16)], [(16, some (.ints .i64 v11))]⟩) ?_ rfl ⟨rfl, trivial⟩
  apply w_conv hC [(16, 208)]
  ·
   exact co
  ·
   rfl
  ·
   decide
  ·
   rfl
def spec_LevelsBack_res (r : ((List Int) × Bool)) : AV := .tup [.own 16, .sv (.bool r.2)]
def spec_LevelsBack_obs (r : ((List Int) × Bool)) : Objs := [(16, .ints .i64 r.1)]
theorem spec_LevelsBack_ac {p0 : (List Int)} {p1 : Cond} {r : ((List Int) × Bool)} (h : spec_LevelsBack p0 p1 = some r) : AC Try.prog 129 [.sv (.ints .i64 p0), .agg [.sv (.bool p1.Key), .sv (.int .i64 p1.Qp), .sv (.bool p1.Large), .sv (.bool p1.Exact)]] [] (spec_LevelsBack_res r) (spec_LevelsBack_obs r) := by
 refine ac_of_body hT Try.func129 rfl fun C hC => ?_
 unfold spec_LevelsBack at h
 refine s_reg ?_
 iterate 3 refine v_op hT hC rfl rfl rfl rfl trivial ?_
 refine Vc.nil ?_
 refine s_in ?_
 refine live [0, 3] [48] (s' := [_, _]) (o' := [_]) rfl rfl ?_
 obtain ⟨v1, h1, h⟩ := bnd_some h
 refine aw_to ([(23, .sv (.bool v1))], []) ?_ ?_
 ·
  have h := h1
  refine aw_region ?_
  refine v_op hT hC rfl rfl rfl rfl trivial ?_
  obtain ⟨q2, hq, h⟩ := bnd_some h
  refine v_call hC [] rfl rfl rfl rfl Try.call124 (spec_CondOk_ac hq) rfl (by decide) trivial rfl (.inl rfl) rfl ?_
  iterate 2 refine v_op hT hC rfl rfl rfl rfl trivial ?_
  rcases sel_some h with ⟨hb1, h⟩ | ⟨hb1, h⟩
  ·
   refine v_on hT hC rfl rfl rfl rfl (congrArg Bool.not hb1) rfl rfl rfl trivial ?_
   obtain ⟨q3, hq, h⟩ := bnd_some h
   refine v_call_on hC [] rfl rfl rfl rfl (congrArg Bool.not hb1) rfl rfl rfl Try.call156 (spec_l09All_ac hq) rfl (by decide) trivial rfl (.inl rfl) rfl ?_
   refine v_on hT hC rfl rfl rfl rfl (congrArg Bool.not hb1) rfl rfl rfl trivial ?_
   refine v_pick hC rfl rfl rfl (b := false) (congrArg Bool.not hb1) rfl rfl rfl trivial ?_
   refine Vc.nil ?_
   injection h with h
   subst h
   refine m_norm ?_
   apply w_conv hC []
   ·
    exact co
   ·
    rfl
   ·
    decide
   ·
    rfl
  ·
   refine v_off hC rfl rfl rfl rfl (congrArg Bool.not hb1) rfl rfl ?_
   refine v_off hC rfl rfl rfl rfl (congrArg Bool.not hb1) rfl rfl ?_
   refine v_off hC rfl rfl rfl rfl (congrArg Bool.not hb1) rfl rfl ?_
   refine v_pick hC rfl rfl rfl (b := true) (congrArg Bool.not hb1) rfl rfl rfl trivial ?_
   refine Vc.nil ?_
   injection h with h
   subst h
   refine m_norm ?_
   apply w_conv hC []
   ·
    exact co
   ·
    rfl
   ·
    decide
   ·
    rfl
 rcases sel_some h with ⟨hb2, h⟩ | ⟨hb2, h⟩
 ·
  refine s_true rfl hb2 ?_
  refine s_reg ?_
  iterate 3 refine v_op hT hC rfl rfl rfl rfl trivial ?_
  refine Vc.nil ?_
  refine aw_ret ?_
  refine t_ret ?_
  injection h with h
  subst h
  refine ends (τ := ⟨[(4, .own 16), (5, .sv (.bool false))], [(16, some (.ints .i64 ([] : List Int)))]⟩) ?_ rfl ⟨rfl, trivial⟩
  apply w_conv hC [(16, 384)]
  ·
   exact co
  ·
   rfl
  ·
   decide
  ·
   rfl
 ·
  refine s_false rfl hb2 ?_
  refine aw_skip ?_
  refine t_norm ?_
  refine s_in ?_
  refine s_reg ?_
  iterate 2 refine v_op hT hC rfl rfl rfl rfl trivial ?_
  refine Vc.nil ?_
  rcases sel_some h with ⟨hb3, h⟩ | ⟨hb3, h⟩
  ·
   refine s_true rfl hb3 ?_
   refine s_reg ?_
   refine v_op hT hC rfl rfl rfl rfl trivial ?_
   obtain ⟨q4, hq, h⟩ := bnd_some h
   refine v_call hC [(16, 448)] rfl rfl rfl rfl Try.call157 (spec_Unscanned_ac hq) rfl (by decide) trivial rfl (.inl rfl) rfl ?_
   iterate 4 refine v_op hT hC rfl rfl rfl rfl trivial ?_
   refine Vc.nil ?_
   refine aw_ret ?_
   refine t_ret ?_
   injection h with h
   subst h
   refine ends (τ := ⟨[(4, .own 16), (5, .sv (.bool q4.2))], [(16, some (.ints .i64 q4.1))]⟩) ?_ rfl ⟨rfl, trivial⟩
   apply w_conv hC [(16, 448)]
   ·
    exact co
   ·
    rfl
   ·
    decide
   ·
    rfl
  ·
   refine s_false rfl hb3 ?_
   refine aw_skip ?_
   refine t_norm ?_
   refine s_in ?_
   refine s_reg ?_
   iterate 2 refine v_op hT hC rfl rfl rfl rfl trivial ?_
   refine Vc.nil ?_
   rcases sel_some h with ⟨hb4, h⟩ | ⟨hb4, h⟩
   ·
    refine s_true rfl hb4 ?_
    refine s_reg ?_
    refine v_op hT hC rfl rfl rfl rfl trivial ?_
    obtain ⟨q5, hq, h⟩ := bnd_some h
    refine v_call hC [(16, 560)] rfl rfl rfl rfl Try.call157 (spec_Unscanned_ac hq) rfl (by decide) trivial rfl (.inl rfl) rfl ?_
    iterate 5 refine v_op hT hC rfl rfl rfl rfl trivial ?_
    refine Vc.nil ?_
    refine s_in ?_
    refine s_reg ?_
    refine v_op hT hC rfl rfl rfl rfl trivial ?_
    refine Vc.nil ?_
    refine live [3, 6, 8] [48, 560] (s' := [_, _, _]) (o' := [_, _]) rfl rfl ?_
    obtain ⟨v11, hl, h⟩ := bnd_some h
    refine s_loop (fun v8 => ([(8, .sv (.int .i64 v8.1))], [(560, some (.ints .i64 v8.2))])) (fun v11 => ([(3, .any), (8, .any)], [(560, some (.ints .i64 v11)), (48, none)])) hl ?_ ?_ ?_
    ·
     try dsimp only
     apply w_conv hC []
     ·
      exact co
     ·
      rfl
     ·
      decide
     ·
      rfl
    ·
     intro v8 s hs
     have h := hs
     unfold spec_LevelsBack_l4 at h
     refine s_in ?_
     refine s_reg ?_
     iterate 2 refine v_op hT hC rfl rfl rfl rfl trivial ?_
     refine Vc.nil ?_
     rcases sel_some h with ⟨hb7, h⟩ | ⟨hb7, h⟩
     ·
      refine s_true rfl hb7 ?_
      refine aw_skip ?_
      refine t_norm ?_
      refine s_in ?_
      refine s_block ?_
      refine aw_draw hm ?_
      iterate 4 refine v_op hT hC rfl rfl rfl rfl trivial ?_
      obtain ⟨hq, h⟩ := req_some h
      refine v_op hT hC rfl rfl rfl rfl hq ?_
      obtain ⟨hq, h⟩ := req_some h
      refine v_op hT hC rfl rfl rfl rfl hq ?_
      iterate 2 refine v_op hT hC rfl rfl rfl rfl trivial ?_
      obtain ⟨q12, hq, h⟩ := bnd_some h
      refine v_call hC [] rfl rfl rfl rfl Try.call158 (spec_LargeBack_ac hq) rfl (by decide) trivial rfl (.inl rfl) rfl ?_
      obtain ⟨hq, h⟩ := req_some h
      refine v_op hT hC rfl rfl rfl rfl hq ?_
      obtain ⟨hq, h⟩ := req_some h
      refine v_op hT hC rfl rfl rfl rfl hq ?_
      refine Vc.nil ⟨by kernel_rfl, ?_⟩
      refine b_norm ?_
      refine t_norm ?_
      refine aw_region ?_
      iterate 3 refine v_op hT hC rfl rfl rfl rfl trivial ?_
      refine Vc.nil ?_
      injection h with h
      subst h
      refine r_go ?_
      try dsimp only
      apply w_conv hC []
      ·
       exact co
      ·
       rfl
      ·
       decide
      ·
       rfl
     ·
      refine s_false rfl hb7 ?_
      refine aw_exit ?_
      refine t_exit ?_
      injection h with h
      subst h
      refine r_exit ?_
      refine o_out ?_
      apply w_conv hC []
      ·
       exact co
      ·
       rfl
      ·
       decide
      ·
       rfl
    refine t_norm ?_
    refine s_reg ?_
    refine v_op hT hC rfl rfl rfl rfl trivial ?_
    obtain ⟨q14, hq, h⟩ := bnd_some h
    refine v_call hC [(16, 848)] rfl rfl rfl rfl Try.call159 (spec_EightBack_ac hq) rfl (by decide) trivial rfl (.inr ⟨rfl, ⟨trivial, trivial⟩⟩) rfl ?_
    iterate 2 refine v_op hT hC rfl rfl rfl rfl trivial ?_
    refine Vc.nil ?_
    refine aw_ret ?_
    refine t_ret ?_
    injection h with h
    subst h
    refine ends (τ := ⟨[(4, .own 16), (5, .sv (.bool true))], [(16, some (.ints .i64 q14))]⟩) ?_ rfl ⟨rfl, trivial⟩
    apply w_conv hC [(16, 848)]
    ·
     exact co
    ·
     rfl
    ·
     decide
    ·
     rfl
   ·
    refine s_false rfl hb4 ?_
    refine aw_skip ?_
    refine t_norm ?_
    refine s_reg ?_
    obtain ⟨hq, h⟩ := req_some h
    refine v_op hT hC rfl rfl rfl rfl ⟨hq.1, hq.2.1, hq.2.2, by decide⟩ ?_
    refine v_op hT hC rfl rfl rfl rfl trivial ?_
    refine Vc.nil ?_
    refine s_in ?_
    refine s_reg ?_
    refine v_op hT hC rfl rfl rfl rfl trivial ?_
    refine Vc.nil ?_
    refine live [0, 3, 9, 10] [48, 864] (s' := [_, _, _, _]) (o' := [_, _]) rfl rfl ?_
    obtain ⟨v48, hl, h⟩ := bnd_some h
    refine s_loop (fun v31 => ([(10, .sv (.int .i64 v31.1))], [(864, some (.ints .i64 v31.2))])) (fun v48 => ([(0, .any), (3, .any), (10, .any)], [(864, some (.ints .i64 v48)), (48, none)])) hl ?_ ?_ ?_
    ·
     try dsimp only
     apply w_conv hC []
     ·
      exact co
     ·
      rfl
     ·
      decide
     ·
      rfl
    ·
     intro v31 s hs
     have h := hs
     unfold spec_LevelsBack_l36 at h
     refine s_in ?_
     refine s_reg ?_
     iterate 2 refine v_op hT hC rfl rfl rfl rfl trivial ?_
     refine Vc.nil ?_
     rcases sel_some h with ⟨hb22, h⟩ | ⟨hb22, h⟩
     ·
      refine s_true rfl hb22 ?_
      refine aw_skip ?_
      refine t_norm ?_
      refine s_in ?_
      refine s_block ?_
      refine s_reg ?_
      iterate 6 refine v_op hT hC rfl rfl rfl rfl trivial ?_
      obtain ⟨hq, h⟩ := req_some h
      refine v_op hT hC rfl rfl rfl rfl hq ?_
      obtain ⟨q49, hq, h⟩ := bnd_some h
      refine v_call hC [(16, 1072)] rfl rfl rfl rfl Try.call157 (spec_Unscanned_ac hq) rfl (by decide) trivial rfl (.inl rfl) rfl ?_
      iterate 5 refine v_op hT hC rfl rfl rfl rfl trivial ?_
      refine Vc.nil ?_
      refine s_in ?_
      refine s_reg ?_
      refine v_op hT hC rfl rfl rfl rfl trivial ?_
      refine Vc.nil ?_
      refine live [0, 3, 9, 10, 11, 13] [48, 864, 1072] (s' := [_, _, _, _, _, _]) (o' := [_, _, _]) rfl rfl ?_
      obtain ⟨v55, hl, h⟩ := bnd_some h
      refine s_loop (fun v52 => ([(13, .sv (.int .i64 v52.1))], [(1072, some (.ints .i64 v52.2))])) (fun v55 => ([(13, .any)], [(1072, some (.ints .i64 v55))])) hl ?_ ?_ ?_
      ·
       try dsimp only
       apply w_conv hC []
       ·
        exact co
       ·
        rfl
       ·
        decide
       ·
        rfl
      ·
       intro v52 s hs
       have h := hs
       unfold spec_LevelsBack_l41 at h
       refine s_in ?_
       refine s_reg ?_
       iterate 2 refine v_op hT hC rfl rfl rfl rfl trivial ?_
       refine Vc.nil ?_
       rcases sel_some h with ⟨hb25, h⟩ | ⟨hb25, h⟩
       ·
        refine s_true rfl hb25 ?_
        refine aw_skip ?_
        refine t_norm ?_
        refine s_in ?_
        refine s_block ?_
        refine aw_draw hm ?_
        iterate 4 refine v_op hT hC rfl rfl rfl rfl trivial ?_
        obtain ⟨hq, h⟩ := req_some h
        refine v_op hT hC rfl rfl rfl rfl hq ?_
        obtain ⟨hq, h⟩ := req_some h
        refine v_op hT hC rfl rfl rfl rfl hq ?_
        iterate 3 refine v_op hT hC rfl rfl rfl rfl trivial ?_
        obtain ⟨q56, hq, h⟩ := bnd_some h
        refine v_call hC [] rfl rfl rfl rfl Try.call160 (spec_SmallBack_ac hq) rfl (by decide) trivial rfl (.inl rfl) rfl ?_
        obtain ⟨hq, h⟩ := req_some h
        refine v_op hT hC rfl rfl rfl rfl hq ?_
        obtain ⟨hq, h⟩ := req_some h
        refine v_op hT hC rfl rfl rfl rfl hq ?_
        refine Vc.nil ⟨by kernel_rfl, ?_⟩
        refine b_norm ?_
        refine t_norm ?_
        refine aw_region ?_
        iterate 3 refine v_op hT hC rfl rfl rfl rfl trivial ?_
        refine Vc.nil ?_
        injection h with h
        subst h
        refine r_go ?_
        try dsimp only
        apply w_conv hC []
        ·
         exact co
        ·
         rfl
        ·
         decide
        ·
         rfl
       ·
        refine s_false rfl hb25 ?_
        refine aw_exit ?_
        refine t_exit ?_
        injection h with h
        subst h
        refine r_exit ?_
        refine o_out ?_
        apply w_conv hC []
        ·
         exact co
        ·
         rfl
        ·
         decide
        ·
         rfl
      refine t_norm ?_
      refine s_reg ?_
      refine v_op hT hC rfl rfl rfl rfl trivial ?_
      obtain ⟨q58, hq, h⟩ := bnd_some h
      refine v_call hC [(16, 1376)] rfl rfl rfl rfl Try.call161 (spec_FourBack_ac hq) rfl (by decide) trivial rfl (.inr ⟨rfl, ⟨trivial, trivial⟩⟩) rfl ?_
      refine v_op hT hC rfl rfl rfl rfl trivial ?_
      refine Vc.nil ?_
      refine s_reg ?_
      refine v_op hT hC rfl rfl rfl rfl trivial ?_
      refine Vc.nil ?_
      refine live [0, 3, 9, 10, 14, 15] [48, 864, 1376] (s' := [_, _, _, _, _, _]) (o' := [_, _, _]) rfl rfl ?_
      obtain ⟨v62, hl, h⟩ := bnd_some h
      refine s_loop (fun v60 => ([(15, .sv (.int .i64 v60.1))], [(864, some (.ints .i64 v60.2))])) (fun v62 => ([(14, .any), (15, .any)], [(864, some (.ints .i64 v62)), (1376, none)])) hl ?_ ?_ ?_
      ·
       try dsimp only
       apply w_conv hC []
       ·
        exact co
       ·
        rfl
       ·
        decide
       ·
        rfl
      ·
       intro v60 s hs
       have h := hs
       unfold spec_LevelsBack_l42 at h
       refine s_in ?_
       refine s_reg ?_
       iterate 2 refine v_op hT hC rfl rfl rfl rfl trivial ?_
       refine Vc.nil ?_
       rcases sel_some h with ⟨hb28, h⟩ | ⟨hb28, h⟩
       ·
        refine s_true rfl hb28 ?_
        refine aw_skip ?_
        refine t_norm ?_
        refine s_in ?_
        refine s_block ?_
        refine aw_region ?_
        iterate 2 refine v_op hT hC rfl rfl rfl rfl trivial ?_
        obtain ⟨hq, h⟩ := req_some h
        refine v_op hT hC rfl rfl rfl rfl hq ?_
        iterate 2 refine v_op hT hC rfl rfl rfl rfl trivial ?_
        obtain ⟨hq, h⟩ := req_some h
        refine v_op hT hC rfl rfl rfl rfl hq ?_
        iterate 3 refine v_op hT hC rfl rfl rfl rfl trivial ?_
        obtain ⟨hq, h⟩ := req_some h
        refine v_op hT hC rfl rfl rfl rfl hq ?_
        iterate 3 refine v_op hT hC rfl rfl rfl rfl trivial ?_
        obtain ⟨hq, h⟩ := req_some h
        refine v_op hT hC rfl rfl rfl rfl hq ?_
        iterate 3 refine v_op hT hC rfl rfl rfl rfl trivial ?_
        obtain ⟨hq, h⟩ := req_some h
        refine v_op hT hC rfl rfl rfl rfl hq ?_
        obtain ⟨hq, h⟩ := req_some h
        refine v_op hT hC rfl rfl rfl rfl hq ?_
        obtain ⟨hq, h⟩ := req_some h
        refine v_op hT hC rfl rfl rfl rfl hq ?_
        obtain ⟨hq, h⟩ := req_some h
        refine v_op hT hC rfl rfl rfl rfl hq ?_
        refine Vc.nil ?_
        refine b_norm ?_
        refine t_norm ?_
        refine aw_region ?_
        iterate 3 refine v_op hT hC rfl rfl rfl rfl trivial ?_
        refine Vc.nil ?_
        injection h with h
        subst h
        refine r_go ?_
        try dsimp only
        apply w_conv hC []
        ·
         exact co
        ·
         rfl
        ·
         decide
        ·
         rfl
       ·
        refine s_false rfl hb28 ?_
        refine aw_exit ?_
        refine t_exit ?_
        injection h with h
        subst h
        refine r_exit ?_
        refine o_out ?_
        apply w_conv hC []
        ·
         exact co
        ·
         rfl
        ·
         decide
        ·
         rfl
      refine b_norm ?_
      refine t_norm ?_
      refine aw_region ?_
      iterate 3 refine v_op hT hC rfl rfl rfl rfl trivial ?_
      refine Vc.nil ?_
      injection h with h
      subst h
      refine r_go ?_
      try dsimp only
      apply w_conv hC []
      ·
       exact co
      ·
       rfl
      ·
       decide
      ·
       rfl
     ·
      refine s_false rfl hb22 ?_
      refine aw_exit ?_
      refine t_exit ?_
      injection h with h
      subst h
      refine r_exit ?_
      refine o_out ?_
      apply w_conv hC []
      ·
       exact co
      ·
       rfl
      ·
       decide
      ·
       rfl
    refine t_norm ?_
    refine s_reg ?_
    iterate 3 refine v_op hT hC rfl rfl rfl rfl trivial ?_
    refine Vc.nil ?_
    refine aw_ret ?_
    injection h with h
    subst h
    refine ends (τ := ⟨[(4, .own 16), (5, .sv (.bool true))], [(16, some (.ints .i64 v48))]⟩) ?_ rfl ⟨rfl, trivial⟩
    apply w_conv hC [(16, 864)]
    ·
     exact co
    ·
     rfl
    ·
     decide
    ·
     rfl
def spec_l13Side_res (r : Bool) : AV := .sv (.bool r)
def spec_l13Side_obs (r : Bool) : Objs := []
theorem spec_l13Side_ac {p0 : (List Int)} {r : Bool} (h : spec_l13Side p0 = some r) : AC Try.prog 178 [.sv (.ints .i64 p0)] [] (spec_l13Side_res r) (spec_l13Side_obs r) := by
 refine ac_of_body hT Try.func178 rfl fun C hC => ?_
 unfold spec_l13Side at h
 refine s_reg ?_
 refine v_op hT hC rfl rfl rfl rfl trivial ?_
 refine Vc.nil ?_
 refine s_in ?_
 refine live [0] [] (s' := [_]) (o' := []) rfl rfl ?_
 obtain ⟨v1, h1, h⟩ := bnd_some h
 refine aw_to ([(11, .sv (.bool v1))], []) ?_ ?_
 ·
  have h := h1
  refine aw_region ?_
  iterate 4 refine v_op hT hC rfl rfl rfl rfl trivial ?_
  rcases sel_some h with ⟨hb1, h⟩ | ⟨hb1, h⟩
  ·
   iterate 3 refine v_on hT hC rfl rfl rfl rfl hb1 rfl rfl rfl trivial ?_
   refine v_pick hC rfl rfl rfl (b := true) hb1 rfl rfl rfl trivial ?_
   refine Vc.nil ?_
   injection h with h
   subst h
   refine m_norm ?_
   apply w_conv hC []
   ·
    exact co
   ·
    rfl
   ·
    decide
   ·
    rfl
  ·
   refine v_off hC rfl rfl rfl rfl hb1 rfl rfl ?_
   refine v_off hC rfl rfl rfl rfl hb1 rfl rfl ?_
   refine v_off hC rfl rfl rfl rfl hb1 rfl rfl ?_
   refine v_pick hC rfl rfl rfl (b := false) hb1 rfl rfl rfl trivial ?_
   refine Vc.nil ?_
   injection h with h
   subst h
   refine m_norm ?_
   apply w_conv hC []
   ·
    exact co
   ·
    rfl
   ·
    decide
   ·
    rfl
 rcases sel_some h with ⟨hb2, h⟩ | ⟨hb2, h⟩
 ·
  refine s_true rfl hb2 ?_
  refine s_reg ?_
  refine v_op hT hC rfl rfl rfl rfl trivial ?_
  refine Vc.nil ?_
  refine aw_ret ?_
  refine t_ret ?_
  injection h with h
  subst h
  exact ends (Weak.refl _) rfl trivial
 ·
  refine s_false rfl hb2 ?_
  refine aw_skip ?_
  refine t_norm ?_
  refine s_in ?_
  refine s_reg ?_
  refine v_op hT hC rfl rfl rfl rfl trivial ?_
  refine Vc.nil ?_
  refine live [0, 3] [] (s' := [_, _]) (o' := []) rfl rfl ?_
  obtain ⟨o9, hl, h⟩ := bnd_some h
  refine s_loopR (fun v4 => ([(3, .sv (.int .i64 v4))], [])) (fun v7 => ([(0, .any), (3, .any)], [])) (fun r => EndsA C T Try.f178.results.toList (spec_l13Side_res r) (spec_l13Side_obs r)) hl ?_ ?_ ?_ ?_
  ·
   apply w_conv hC []
   ·
    exact co
   ·
    rfl
   ·
    decide
   ·
    rfl
  ·
   intro v4 s hs
   have h := hs
   unfold spec_l13Side_l2 at h
   refine s_in ?_
   refine s_reg ?_
   iterate 4 refine v_op hT hC rfl rfl rfl rfl trivial ?_
   refine Vc.nil ?_
   rcases sel_some h with ⟨hb7, h⟩ | ⟨hb7, h⟩
   ·
    refine s_true rfl hb7 ?_
    refine aw_skip ?_
    refine t_norm ?_
    refine s_in ?_
    refine s_block ?_
    refine s_reg ?_
    iterate 2 refine v_op hT hC rfl rfl rfl rfl trivial ?_
    obtain ⟨hq, h⟩ := req_some h
    refine v_op hT hC rfl rfl rfl rfl hq ?_
    refine v_op hT hC rfl rfl rfl rfl trivial ?_
    obtain ⟨q8, hq, h⟩ := bnd_some h
    refine v_call hC [] rfl rfl rfl rfl Try.call48 (spec_l01In_ac hq) rfl (by decide) trivial rfl (.inl rfl) rfl ?_
    refine v_op hT hC rfl rfl rfl rfl trivial ?_
    refine Vc.nil ?_
    rcases sel_some h with ⟨hb8, h⟩ | ⟨hb8, h⟩
    ·
     refine s_true rfl hb8 ?_
     refine s_reg ?_
     refine v_op hT hC rfl rfl rfl rfl trivial ?_
     refine Vc.nil ?_
     refine aw_ret ?_
     refine b_ret ?_
     refine t_ret ?_
     injection h with h
     subst h
     refine r_ret ?_
     refine o_ret ?_
     exact ends (Weak.refl _) rfl trivial
    ·
     refine s_false rfl hb8 ?_
     refine aw_skip ?_
     refine b_norm ?_
     refine t_norm ?_
     refine aw_region ?_
     iterate 3 refine v_op hT hC rfl rfl rfl rfl trivial ?_
     refine Vc.nil ?_
     injection h with h
     subst h
     refine r_go ?_
     apply w_conv hC []
     ·
      exact co
     ·
      rfl
     ·
      decide
     ·
      rfl
   ·
    refine s_false rfl hb7 ?_
    refine aw_exit ?_
    refine t_exit ?_
    injection h with h
    subst h
    refine r_exit ?_
    refine o_both ?_
    apply w_conv hC []
    ·
     exact co
    ·
     rfl
    ·
     decide
    ·
     rfl
  ·
   intro v7 e
   subst e
   refine t_norm ?_
   refine s_reg ?_
   refine v_op hT hC rfl rfl rfl rfl trivial ?_
   refine Vc.nil ?_
   refine aw_ret ?_
   injection h with h
   subst h
   exact ends (Weak.refl _) rfl trivial
  ·
   intro r' σ' e hE
   subst e
   injection h with h
   subst h
   refine t_ret ?_
   exact hE
def spec_EdgesOk_res (r : Bool) : AV := .sv (.bool r)
def spec_EdgesOk_obs (r : Bool) : Objs := []
theorem spec_EdgesOk_ac {p0 : Edges} {r : Bool} (h : spec_EdgesOk p0 = some r) : AC Try.prog 163 [.agg [.sv (.ints .i64 p0.Above), .sv (.ints .i64 p0.Left), .sv (.int .i64 p0.Corner)]] [] (spec_EdgesOk_res r) (spec_EdgesOk_obs r) := by
 refine ac_of_body hT Try.func163 rfl fun C hC => ?_
 unfold spec_EdgesOk at h
 refine s_reg ?_
 iterate 2 refine v_op hT hC rfl rfl rfl rfl trivial ?_
 refine Vc.nil ?_
 refine live [1, 2] [16] (s' := [_, _]) (o' := [_]) rfl rfl ?_
 obtain ⟨v1, h1, h⟩ := bnd_some h
 refine aw_to ([(2, .sv (.bool v1)), (1, .any)], [(16, none)]) ?_ ?_
 ·
  have h := h1
  refine aw_region ?_
  iterate 2 refine v_op hT hC rfl rfl rfl rfl trivial ?_
  obtain ⟨q2, hq, h⟩ := bnd_some h
  refine v_call hC [] rfl rfl rfl rfl Try.call178 (spec_l13Side_ac hq) rfl (by decide) trivial rfl (.inl rfl) rfl ?_
  refine v_op hT hC rfl rfl rfl rfl trivial ?_
  rcases sel_some h with ⟨hb1, h⟩ | ⟨hb1, h⟩
  ·
   iterate 2 refine v_on hT hC rfl rfl rfl rfl hb1 rfl rfl rfl trivial ?_
   obtain ⟨q3, hq, h⟩ := bnd_some h
   refine v_call_on hC [] rfl rfl rfl rfl hb1 rfl rfl rfl Try.call178 (spec_l13Side_ac hq) rfl (by decide) trivial rfl (.inl rfl) rfl ?_
   refine v_pick hC rfl rfl rfl (b := true) hb1 rfl rfl rfl trivial ?_
   refine v_op hT hC rfl rfl rfl rfl trivial ?_
   rcases sel_some h with ⟨hb2, h⟩ | ⟨hb2, h⟩
   ·
    iterate 2 refine v_on hT hC rfl rfl rfl rfl hb2 rfl rfl rfl trivial ?_
    obtain ⟨q4, hq, h⟩ := bnd_some h
    refine v_call_on hC [] rfl rfl rfl rfl hb2 rfl rfl rfl Try.call48 (spec_l01In_ac hq) rfl (by decide) trivial rfl (.inl rfl) rfl ?_
    refine v_pick hC rfl rfl rfl (b := true) hb2 rfl rfl rfl trivial ?_
    refine v_op hT hC rfl rfl rfl rfl trivial ?_
    refine Vc.nil ?_
    injection h with h
    subst h
    refine m_norm ?_
    apply w_conv hC []
    ·
     exact co
    ·
     rfl
    ·
     decide
    ·
     rfl
   ·
    refine v_off hC rfl rfl rfl rfl hb2 rfl rfl ?_
    refine v_off hC rfl rfl rfl rfl hb2 rfl rfl ?_
    refine v_off hC rfl rfl rfl rfl hb2 rfl rfl ?_
    refine v_pick hC rfl rfl rfl (b := false) hb2 rfl rfl rfl trivial ?_
    refine v_op hT hC rfl rfl rfl rfl trivial ?_
    refine Vc.nil ?_
    injection h with h
    subst h
    refine m_norm ?_
    apply w_conv hC []
    ·
     exact co
    ·
     rfl
    ·
     decide
    ·
     rfl
  ·
   refine v_off hC rfl rfl rfl rfl hb1 rfl rfl ?_
   refine v_off hC rfl rfl rfl rfl hb1 rfl rfl ?_
   refine v_off hC rfl rfl rfl rfl hb1 rfl rfl ?_
   refine v_pick hC rfl rfl rfl (b := false) hb1 rfl rfl rfl trivial ?_
   refine v_op hT hC rfl rfl rfl rfl trivial ?_
   refine v_off hC rfl rfl rfl rfl rfl rfl rfl ?_
   refine v_off hC rfl rfl rfl rfl rfl rfl rfl ?_
   refine v_off hC rfl rfl rfl rfl rfl rfl rfl ?_
   iterate 2 refine v_op hT hC rfl rfl rfl rfl trivial ?_
   refine Vc.nil ?_
   injection h with h
   subst h
   refine m_norm ?_
   apply w_conv hC []
   ·
    exact co
   ·
    rfl
   ·
    decide
   ·
    rfl
 refine aw_ret ?_
 injection h with h
 subst h
 exact ends (Weak.refl _) rfl trivial
def spec_l13Filled_res (r : Int) : AV := .sv (.int .i64 r)
def spec_l13Filled_obs (r : Int) : Objs := []
theorem spec_l13Filled_ac {p0 : (List Int)} {p1 : Int} {r : Int} (h : spec_l13Filled p0 p1 = some r) : AC Try.prog 164 [.sv (.ints .i64 p0), .sv (.int .i64 p1)] [] (spec_l13Filled_res r) (spec_l13Filled_obs r) := by
 refine ac_of_body hT Try.func164 rfl fun C hC => ?_
 unfold spec_l13Filled at h
 refine s_reg ?_
 refine v_op hT hC rfl rfl rfl rfl trivial ?_
 refine Vc.nil ?_
 refine s_in ?_
 refine s_reg ?_
 iterate 3 refine v_op hT hC rfl rfl rfl rfl trivial ?_
 refine Vc.nil ?_
 rcases sel_some h with ⟨hb1, h⟩ | ⟨hb1, h⟩
 ·
  refine s_true rfl hb1 ?_
  refine s_reg ?_
  refine v_op hT hC rfl rfl rfl rfl trivial ?_
  refine Vc.nil ?_
  refine aw_ret ?_
  refine t_ret ?_
  injection h with h
  subst h
  exact ends (Weak.refl _) rfl trivial
 ·
  refine s_false rfl hb1 ?_
  refine aw_skip ?_
  refine t_norm ?_
  refine s_reg ?_
  iterate 2 refine v_op hT hC rfl rfl rfl rfl trivial ?_
  obtain ⟨hq, h⟩ := req_some h
  refine v_op hT hC rfl rfl rfl rfl hq ?_
  iterate 2 refine v_op hT hC rfl rfl rfl rfl trivial ?_
  refine Vc.nil ?_
  refine aw_ret ?_
  injection h with h
  subst h
  exact ends (Weak.refl _) rfl trivial
def spec_l13Mid_res (r : Int) : AV := .sv (.int .i64 r)
def spec_l13Mid_obs (r : Int) : Objs := []
theorem spec_l13Mid_ac {p0 : Edges} {r : Int} (h : spec_l13Mid p0 = some r) : AC Try.prog 165 [.agg [.sv (.ints .i64 p0.Above), .sv (.ints .i64 p0.Left), .sv (.int .i64 p0.Corner)]] [] (spec_l13Mid_res r) (spec_l13Mid_obs r) := by
 refine ac_of_body hT Try.func165 rfl fun C hC => ?_
 unfold spec_l13Mid at h
 refine s_reg ?_
 iterate 2 refine v_op hT hC rfl rfl rfl rfl trivial ?_
 refine Vc.nil ?_
 refine s_reg ?_
 iterate 8 refine v_op hT hC rfl rfl rfl rfl trivial ?_
 refine Vc.nil ?_
 refine s_in ?_
 refine s_reg ?_
 iterate 2 refine v_op hT hC rfl rfl rfl rfl trivial ?_
 refine Vc.nil ?_
 rcases sel_some h with ⟨hb1, h⟩ | ⟨hb1, h⟩
 ·
  refine s_true rfl hb1 ?_
  refine s_reg ?_
  refine v_op hT hC rfl rfl rfl rfl trivial ?_
  refine Vc.nil ?_
  refine aw_ret ?_
  refine t_ret ?_
  injection h with h
  subst h
  exact ends (Weak.refl _) rfl trivial
 ·
  refine s_false rfl hb1 ?_
  refine aw_skip ?_
  refine t_norm ?_
  refine s_reg ?_
  refine v_op hT hC rfl rfl rfl rfl trivial ?_
  obtain ⟨hq, h⟩ := req_some h
  refine v_op hT hC rfl rfl rfl rfl hq ?_
  refine v_op hT hC rfl rfl rfl rfl trivial ?_
  refine Vc.nil ?_
  refine s_in ?_
  refine s_reg ?_
  refine v_op hT hC rfl rfl rfl rfl trivial ?_
  refine Vc.nil ?_
  refine live [1, 3, 4, 5] [16] (s' := [_, _, _, _]) (o' := [_]) rfl rfl ?_
  obtain ⟨v4, hl, h⟩ := bnd_some h
  refine s_loop (fun v2 => ([(4, .sv (.int .i64 v2.1)), (5, .sv (.int .i64 v2.2))], [])) (fun v4 => ([(4, .sv (.int .i64 v4)), (5, .any)], [])) hl ?_ ?_ ?_
  ·
   try dsimp only
   apply w_conv hC []
   ·
    exact co
   ·
    rfl
   ·
    decide
   ·
    rfl
  ·
   intro v2 s hs
   have h := hs
   unfold spec_l13Mid_l2 at h
   refine s_in ?_
   refine s_reg ?_
   iterate 5 refine v_op hT hC rfl rfl rfl rfl trivial ?_
   refine Vc.nil ?_
   rcases sel_some h with ⟨hb4, h⟩ | ⟨hb4, h⟩
   ·
    refine s_true rfl hb4 ?_
    refine aw_skip ?_
    refine t_norm ?_
    refine s_in ?_
    refine s_block ?_
    refine aw_region ?_
    iterate 4 refine v_op hT hC rfl rfl rfl rfl trivial ?_
    obtain ⟨hq, h⟩ := req_some h
    refine v_op hT hC rfl rfl rfl rfl hq ?_
    iterate 3 refine v_op hT hC rfl rfl rfl rfl trivial ?_
    refine Vc.nil ?_
    refine b_norm ?_
    refine t_norm ?_
    refine aw_region ?_
    iterate 3 refine v_op hT hC rfl rfl rfl rfl trivial ?_
    refine Vc.nil ?_
    injection h with h
    subst h
    refine r_go ?_
    try dsimp only
    apply w_conv hC []
    ·
     exact co
    ·
     rfl
    ·
     decide
    ·
     rfl
   ·
    refine s_false rfl hb4 ?_
    refine aw_exit ?_
    refine t_exit ?_
    injection h with h
    subst h
    refine r_exit ?_
    refine o_out ?_
    apply w_conv hC []
    ·
     exact co
    ·
     rfl
    ·
     decide
    ·
     rfl
  refine t_norm ?_
  refine s_in ?_
  refine s_reg ?_
  refine v_op hT hC rfl rfl rfl rfl trivial ?_
  refine Vc.nil ?_
  refine live [1, 3, 4, 6] [16] (s' := [_, _, _, _]) (o' := [_]) rfl rfl ?_
  obtain ⟨v9, hl, h⟩ := bnd_some h
  refine s_loop (fun v7 => ([(4, .sv (.int .i64 v7.1)), (6, .sv (.int .i64 v7.2))], [])) (fun v9 => ([(4, .sv (.int .i64 v9)), (1, .any), (6, .any)], [(16, none)])) hl ?_ ?_ ?_
  ·
   try dsimp only
   apply w_conv hC []
   ·
    exact co
   ·
    rfl
   ·
    decide
   ·
    rfl
  ·
   intro v7 s hs
   have h := hs
   unfold spec_l13Mid_l4 at h
   refine s_in ?_
   refine s_reg ?_
   iterate 5 refine v_op hT hC rfl rfl rfl rfl trivial ?_
   refine Vc.nil ?_
   rcases sel_some h with ⟨hb7, h⟩ | ⟨hb7, h⟩
   ·
    refine s_true rfl hb7 ?_
    refine aw_skip ?_
    refine t_norm ?_
    refine s_in ?_
    refine s_block ?_
    refine aw_region ?_
    iterate 4 refine v_op hT hC rfl rfl rfl rfl trivial ?_
    obtain ⟨hq, h⟩ := req_some h
    refine v_op hT hC rfl rfl rfl rfl hq ?_
    iterate 3 refine v_op hT hC rfl rfl rfl rfl trivial ?_
    refine Vc.nil ?_
    refine b_norm ?_
    refine t_norm ?_
    refine aw_region ?_
    iterate 3 refine v_op hT hC rfl rfl rfl rfl trivial ?_
    refine Vc.nil ?_
    injection h with h
    subst h
    refine r_go ?_
    try dsimp only
    apply w_conv hC []
    ·
     exact co
    ·
     rfl
    ·
     decide
    ·
     rfl
   ·
    refine s_false rfl hb7 ?_
    refine aw_exit ?_
    refine t_exit ?_
    injection h with h
    subst h
    refine r_exit ?_
    refine o_out ?_
    apply w_conv hC []
    ·
     exact co
    ·
     rfl
    ·
     decide
    ·
     rfl
  refine t_norm ?_
  refine s_reg ?_
  iterate 2 refine v_op hT hC rfl rfl rfl rfl trivial ?_
  obtain ⟨hq, h⟩ := req_some h
  refine v_op hT hC rfl rfl rfl rfl hq ?_
  refine v_op hT hC rfl rfl rfl rfl trivial ?_
  refine Vc.nil ?_
  refine aw_ret ?_
  injection h with h
  subst h
  exact ends (Weak.refl _) rfl trivial
def spec_GuessOf_res (r : (List Int)) : AV := .own 16
def spec_GuessOf_obs (r : (List Int)) : Objs := [(16, .ints .i64 r)]
theorem spec_GuessOf_ac {p0 : Int} {p1 : Edges} {r : (List Int)} (h : spec_GuessOf p0 p1 = some r) : AC Try.prog 131 [.sv (.int .i64 p0), .agg [.sv (.ints .i64 p1.Above), .sv (.ints .i64 p1.Left), .sv (.int .i64 p1.Corner)]] [] (spec_GuessOf_res r) (spec_GuessOf_obs r) := by
 refine ac_of_body hT Try.func131 rfl fun C hC => ?_
 unfold spec_GuessOf at h
 refine s_reg ?_
 iterate 2 refine v_op hT hC rfl rfl rfl rfl trivial ?_
 refine Vc.nil ?_
 refine s_reg ?_
 iterate 2 refine v_op hT hC rfl rfl rfl rfl trivial ?_
 refine Vc.nil ?_
 refine s_in ?_
 refine live [0, 3, 5] [48, 160] (s' := [_, _, _]) (o' := [_, _]) rfl rfl ?_
 obtain ⟨v1, h1, h⟩ := bnd_some h
 refine aw_to ([(18, .sv (.bool v1))], []) ?_ ?_
 ·
  have h := h1
  refine aw_region ?_
  refine v_op hT hC rfl rfl rfl rfl trivial ?_
  obtain ⟨q2, hq, h⟩ := bnd_some h
  refine v_call hC [] rfl rfl rfl rfl Try.call163 (spec_EdgesOk_ac hq) rfl (by decide) trivial rfl (.inl rfl) rfl ?_
  iterate 2 refine v_op hT hC rfl rfl rfl rfl trivial ?_
  rcases sel_some h with ⟨hb1, h⟩ | ⟨hb1, h⟩
  ·
   refine v_on hT hC rfl rfl rfl rfl (congrArg Bool.not hb1) rfl rfl rfl trivial ?_
   obtain ⟨q3, hq, h⟩ := bnd_some h
   refine v_call_on hC [] rfl rfl rfl rfl (congrArg Bool.not hb1) rfl rfl rfl Try.call48 (spec_l01In_ac hq) rfl (by decide) trivial rfl (.inl rfl) rfl ?_
   refine v_on hT hC rfl rfl rfl rfl (congrArg Bool.not hb1) rfl rfl rfl trivial ?_
   refine v_pick hC rfl rfl rfl (b := false) (congrArg Bool.not hb1) rfl rfl rfl trivial ?_
   refine Vc.nil ?_
   injection h with h
   subst h
   refine m_norm ?_
   apply w_conv hC []
   ·
    exact co
   ·
    rfl
   ·
    decide
   ·
    rfl
  ·
   refine v_off hC rfl rfl rfl rfl (congrArg Bool.not hb1) rfl rfl ?_
   refine v_off hC rfl rfl rfl rfl (congrArg Bool.not hb1) rfl rfl ?_
   refine v_off hC rfl rfl rfl rfl (congrArg Bool.not hb1) rfl rfl ?_
   refine v_pick hC rfl rfl rfl (b := true) (congrArg Bool.not hb1) rfl rfl rfl trivial ?_
   refine Vc.nil ?_
   injection h with h
   subst h
   refine m_norm ?_
   apply w_conv hC []
   ·
    exact co
   ·
    rfl
   ·
    decide
   ·
    rfl
 rcases sel_some h with ⟨hb2, h⟩ | ⟨hb2, h⟩
 ·
  refine s_true rfl hb2 ?_
  refine s_reg ?_
  iterate 2 refine v_op hT hC rfl rfl rfl rfl trivial ?_
  refine Vc.nil ?_
  refine aw_ret ?_
  refine t_ret ?_
  injection h with h
  subst h
  refine ends (τ := ⟨[(4, .own 16)], [(16, some (.ints .i64 ([] : List Int)))]⟩) ?_ rfl ⟨rfl, trivial⟩
  apply w_conv hC [(16, 160)]
  ·
   exact co
  ·
   rfl
  ·
   decide
  ·
   rfl
 ·
  refine s_false rfl hb2 ?_
  refine aw_skip ?_
  refine t_norm ?_
  refine s_reg ?_
  iterate 3 refine v_op hT hC rfl rfl rfl rfl trivial ?_
  refine Vc.nil ?_
  refine live [0, 3, 5, 6] [48, 160] (s' := [_, _, _, _]) (o' := [_, _]) rfl rfl ?_
  obtain ⟨v4, h1, h⟩ := bnd_some h
  refine aw_to ([(6, .sv (.int .i64 v4))], []) ?_ ?_
  ·
   have h := h1
   refine s_reg ?_
   iterate 2 refine v_op hT hC rfl rfl rfl rfl trivial ?_
   refine Vc.nil ?_
   rcases sel_some h with ⟨hb3, h⟩ | ⟨hb3, h⟩
   ·
    refine s_true rfl hb3 ?_
    refine aw_region ?_
    refine v_op hT hC rfl rfl rfl rfl trivial ?_
    refine Vc.nil ?_
    injection h with h
    subst h
    refine m_norm ?_
    apply w_conv hC []
    ·
     exact co
    ·
     rfl
    ·
     decide
    ·
     rfl
   ·
    refine s_false rfl hb3 ?_
    refine aw_skip ?_
    injection h with h
    subst h
    refine m_norm ?_
    apply w_conv hC []
    ·
     exact co
    ·
     rfl
    ·
     decide
    ·
     rfl
  refine s_in ?_
  refine s_reg ?_
  refine v_op hT hC rfl rfl rfl rfl trivial ?_
  refine Vc.nil ?_
  refine live [0, 3, 5, 6, 7] [48, 160] (s' := [_, _, _, _, _]) (o' := [_, _]) rfl rfl ?_
  obtain ⟨v18, hl, h⟩ := bnd_some h
  refine s_loop (fun v11 => ([(7, .sv (.int .i64 v11.1))], [(160, some (.ints .i64 v11.2))])) (fun v18 => ([(0, .any), (3, .any), (6, .any), (7, .any)], [(160, some (.ints .i64 v18)), (48, none)])) hl ?_ ?_ ?_
  ·
   try dsimp only
   apply w_conv hC []
   ·
    exact co
   ·
    rfl
   ·
    decide
   ·
    rfl
  ·
   intro v11 s hs
   have h := hs
   unfold spec_GuessOf_l2 at h
   refine s_in ?_
   refine s_reg ?_
   iterate 2 refine v_op hT hC rfl rfl rfl rfl trivial ?_
   refine Vc.nil ?_
   rcases sel_some h with ⟨hb12, h⟩ | ⟨hb12, h⟩
   ·
    refine s_true rfl hb12 ?_
    refine aw_skip ?_
    refine t_norm ?_
    refine live [0, 3, 5, 6, 7] [48, 160] (s' := [_, _, _, _, _]) (o' := [_, _]) rfl rfl ?_
    obtain ⟨v19, h1, h⟩ := bnd_some h
    refine aw_to ([(5, .own 1110)], [(1110, some (.ints .i64 v19)), (160, none)]) ?_ ?_
    ·
     have h := h1
     refine s_block ?_
     refine s_reg ?_
     iterate 3 refine v_op hT hC rfl rfl rfl rfl trivial ?_
     obtain ⟨hq, h⟩ := req_some h
     refine v_op hT hC rfl rfl rfl rfl hq ?_
     obtain ⟨q20, hq, h⟩ := bnd_some h
     refine v_call hC [] rfl rfl rfl rfl Try.call164 (spec_l13Filled_ac hq) rfl (by decide) trivial rfl (.inl rfl) rfl ?_
     refine v_op hT hC rfl rfl rfl rfl trivial ?_
     refine Vc.nil ?_
     refine s_reg ?_
     iterate 3 refine v_op hT hC rfl rfl rfl rfl trivial ?_
     obtain ⟨hq, h⟩ := req_some h
     refine v_op hT hC rfl rfl rfl rfl hq ?_
     obtain ⟨q21, hq, h⟩ := bnd_some h
     refine v_call hC [] rfl rfl rfl rfl Try.call164 (spec_l13Filled_ac hq) rfl (by decide) trivial rfl (.inl rfl) rfl ?_
     refine v_op hT hC rfl rfl rfl rfl trivial ?_
     refine Vc.nil ?_
     refine s_reg ?_
     refine v_op hT hC rfl rfl rfl rfl trivial ?_
     refine Vc.nil ?_
     refine s_block ?_
     refine s_reg ?_
     iterate 2 refine v_op hT hC rfl rfl rfl rfl trivial ?_
     refine Vc.nil ?_
     rcases sel_some h with ⟨hb13, h⟩ | ⟨hb13, h⟩
     ·
      refine s_true rfl hb13 ?_
      refine aw_region ?_
      iterate 2 refine v_op hT hC rfl rfl rfl rfl trivial ?_
      obtain ⟨q22, hq, h⟩ := bnd_some h
      refine v_call hC [] rfl rfl rfl rfl Try.call165 (spec_l13Mid_ac hq) rfl (by decide) trivial rfl (.inl rfl) rfl ?_
      refine v_op hT hC rfl rfl rfl rfl trivial ?_
      obtain ⟨hq, h⟩ := req_some h
      refine v_op hT hC rfl rfl rfl rfl ⟨trivial, hq⟩ ?_
      refine v_op hT hC rfl rfl rfl rfl trivial ?_
      refine Vc.nil ?_
      refine b_norm ?_
      refine b_norm ?_
      injection h with h
      subst h
      refine m_norm ?_
      apply w_conv hC [(1110, 864)]
      ·
       exact co
      ·
       rfl
      ·
       decide
      ·
       rfl
     ·
      refine s_false rfl hb13 ?_
      refine s_reg ?_
      iterate 2 refine v_op hT hC rfl rfl rfl rfl trivial ?_
      refine Vc.nil ?_
      rcases sel_some h with ⟨hb14, h⟩ | ⟨hb14, h⟩
      ·
       refine s_true rfl hb14 ?_
       refine aw_region ?_
       iterate 3 refine v_op hT hC rfl rfl rfl rfl trivial ?_
       obtain ⟨hq, h⟩ := req_some h
       refine v_op hT hC rfl rfl rfl rfl ⟨trivial, hq⟩ ?_
       refine v_op hT hC rfl rfl rfl rfl trivial ?_
       refine Vc.nil ?_
       refine b_norm ?_
       refine b_norm ?_
       injection h with h
       subst h
       refine m_norm ?_
       apply w_conv hC [(1110, 960)]
       ·
        exact co
       ·
        rfl
       ·
        decide
       ·
        rfl
      ·
       refine s_false rfl hb14 ?_
       refine s_reg ?_
       iterate 2 refine v_op hT hC rfl rfl rfl rfl trivial ?_
       refine Vc.nil ?_
       rcases sel_some h with ⟨hb15, h⟩ | ⟨hb15, h⟩
       ·
        refine s_true rfl hb15 ?_
        refine aw_region ?_
        iterate 3 refine v_op hT hC rfl rfl rfl rfl trivial ?_
        obtain ⟨hq, h⟩ := req_some h
        refine v_op hT hC rfl rfl rfl rfl ⟨trivial, hq⟩ ?_
        refine v_op hT hC rfl rfl rfl rfl trivial ?_
        refine Vc.nil ?_
        refine b_norm ?_
        refine b_norm ?_
        injection h with h
        subst h
        refine m_norm ?_
        apply w_conv hC [(1110, 1056)]
        ·
         exact co
        ·
         rfl
        ·
         decide
        ·
         rfl
       ·
        refine s_false rfl hb15 ?_
        refine aw_region ?_
        iterate 6 refine v_op hT hC rfl rfl rfl rfl trivial ?_
        obtain ⟨q23, hq, h⟩ := bnd_some h
        refine v_call hC [] rfl rfl rfl rfl Try.call91 (spec_Brought_ac hq) rfl (by decide) trivial rfl (.inl rfl) rfl ?_
        refine v_op hT hC rfl rfl rfl rfl trivial ?_
        obtain ⟨hq, h⟩ := req_some h
        refine v_op hT hC rfl rfl rfl rfl ⟨trivial, hq⟩ ?_
        refine v_op hT hC rfl rfl rfl rfl trivial ?_
        refine Vc.nil ?_
        refine b_norm ?_
        refine b_norm ?_
        injection h with h
        subst h
        refine m_norm ?_
        apply w_conv hC [(1110, 752)]
        ·
         exact co
        ·
         rfl
        ·
         decide
        ·
         rfl
    refine aw_region ?_
    iterate 3 refine v_op hT hC rfl rfl rfl rfl trivial ?_
    refine Vc.nil ?_
    injection h with h
    subst h
    refine r_go ?_
    try dsimp only
    apply w_conv hC [(160, 1110)]
    ·
     exact co
    ·
     rfl
    ·
     decide
    ·
     rfl
   ·
    refine s_false rfl hb12 ?_
    refine aw_exit ?_
    refine t_exit ?_
    injection h with h
    subst h
    refine r_exit ?_
    refine o_out ?_
    apply w_conv hC []
    ·
     exact co
    ·
     rfl
    ·
     decide
    ·
     rfl
  refine t_norm ?_
  refine s_reg ?_
  iterate 2 refine v_op hT hC rfl rfl rfl rfl trivial ?_
  refine Vc.nil ?_
  refine aw_ret ?_
  injection h with h
  subst h
  refine ends (τ := ⟨[(4, .own 16)], [(16, some (.ints .i64 v18))]⟩) ?_ rfl ⟨rfl, trivial⟩
  apply w_conv hC [(16, 160)]
  ·
   exact co
  ·
   rfl
  ·
   decide
  ·
   rfl
def spec_l13Dots_res (r : Bool) : AV := .sv (.bool r)
def spec_l13Dots_obs (r : Bool) : Objs := []
theorem spec_l13Dots_ac {p0 : (List Int)} {r : Bool} (h : spec_l13Dots p0 = some r) : AC Try.prog 162 [.sv (.ints .i64 p0)] [] (spec_l13Dots_res r) (spec_l13Dots_obs r) := by
 refine ac_of_body hT Try.func162 rfl fun C hC => ?_
 unfold spec_l13Dots at h
 refine s_reg ?_
 refine v_op hT hC rfl rfl rfl rfl trivial ?_
 refine Vc.nil ?_
 refine s_in ?_
 refine s_reg ?_
 iterate 3 refine v_op hT hC rfl rfl rfl rfl trivial ?_
 refine Vc.nil ?_
 rcases sel_some h with ⟨hb1, h⟩ | ⟨hb1, h⟩
 ·
  refine s_true rfl hb1 ?_
  refine s_reg ?_
  refine v_op hT hC rfl rfl rfl rfl trivial ?_
  refine Vc.nil ?_
  refine aw_ret ?_
  refine t_ret ?_
  injection h with h
  subst h
  exact ends (Weak.refl _) rfl trivial
 ·
  refine s_false rfl hb1 ?_
  refine aw_skip ?_
  refine t_norm ?_
  refine s_in ?_
  refine s_reg ?_
  refine v_op hT hC rfl rfl rfl rfl trivial ?_
  refine Vc.nil ?_
  refine live [0, 3] [] (s' := [_, _]) (o' := []) rfl rfl ?_
  obtain ⟨o8, hl, h⟩ := bnd_some h
  refine s_loopR (fun v3 => ([(3, .sv (.int .i64 v3))], [])) (fun v6 => ([(0, .any), (3, .any)], [])) (fun r => EndsA C T Try.f162.results.toList (spec_l13Dots_res r) (spec_l13Dots_obs r)) hl ?_ ?_ ?_ ?_
  ·
   apply w_conv hC []
   ·
    exact co
   ·
    rfl
   ·
    decide
   ·
    rfl
  ·
   intro v3 s hs
   have h := hs
   unfold spec_l13Dots_l2 at h
   refine s_in ?_
   refine s_reg ?_
   iterate 2 refine v_op hT hC rfl rfl rfl rfl trivial ?_
   refine Vc.nil ?_
   rcases sel_some h with ⟨hb6, h⟩ | ⟨hb6, h⟩
   ·
    refine s_true rfl hb6 ?_
    refine aw_skip ?_
    refine t_norm ?_
    refine s_in ?_
    refine s_block ?_
    refine s_reg ?_
    iterate 2 refine v_op hT hC rfl rfl rfl rfl trivial ?_
    obtain ⟨hq, h⟩ := req_some h
    refine v_op hT hC rfl rfl rfl rfl hq ?_
    refine v_op hT hC rfl rfl rfl rfl trivial ?_
    obtain ⟨q7, hq, h⟩ := bnd_some h
    refine v_call hC [] rfl rfl rfl rfl Try.call48 (spec_l01In_ac hq) rfl (by decide) trivial rfl (.inl rfl) rfl ?_
    refine v_op hT hC rfl rfl rfl rfl trivial ?_
    refine Vc.nil ?_
    rcases sel_some h with ⟨hb7, h⟩ | ⟨hb7, h⟩
    ·
     refine s_true rfl hb7 ?_
     refine s_reg ?_
     refine v_op hT hC rfl rfl rfl rfl trivial ?_
     refine Vc.nil ?_
     refine aw_ret ?_
     refine b_ret ?_
     refine t_ret ?_
     injection h with h
     subst h
     refine r_ret ?_
     refine o_ret ?_
     exact ends (Weak.refl _) rfl trivial
    ·
     refine s_false rfl hb7 ?_
     refine aw_skip ?_
     refine b_norm ?_
     refine t_norm ?_
     refine aw_region ?_
     iterate 3 refine v_op hT hC rfl rfl rfl rfl trivial ?_
     refine Vc.nil ?_
     injection h with h
     subst h
     refine r_go ?_
     apply w_conv hC []
     ·
      exact co
     ·
      rfl
     ·
      decide
     ·
      rfl
   ·
    refine s_false rfl hb6 ?_
    refine aw_exit ?_
    refine t_exit ?_
    injection h with h
    subst h
    refine r_exit ?_
    refine o_both ?_
    apply w_conv hC []
    ·
     exact co
    ·
     rfl
    ·
     decide
    ·
     rfl
  ·
   intro v6 e
   subst e
   refine t_norm ?_
   refine s_reg ?_
   refine v_op hT hC rfl rfl rfl rfl trivial ?_
   refine Vc.nil ?_
   refine aw_ret ?_
   injection h with h
   subst h
   exact ends (Weak.refl _) rfl trivial
  ·
   intro r' σ' e hE
   subst e
   injection h with h
   subst h
   refine t_ret ?_
   exact hE
def spec_Joined_res (r : (List Int)) : AV := .own 16
def spec_Joined_obs (r : (List Int)) : Objs := [(16, .ints .i64 r)]
theorem spec_Joined_ac {p0 : (List Int)} {p1 : (List Int)} {r : (List Int)} (h : spec_Joined p0 p1 = some r) : AC Try.prog 130 [.sv (.ints .i64 p0), .sv (.ints .i64 p1)] [] (spec_Joined_res r) (spec_Joined_obs r) := by
 refine ac_of_body hT Try.func130 rfl fun C hC => ?_
 unfold spec_Joined at h
 refine s_reg ?_
 refine v_op hT hC rfl rfl rfl rfl trivial ?_
 refine Vc.nil ?_
 refine s_reg ?_
 iterate 2 refine v_op hT hC rfl rfl rfl rfl trivial ?_
 refine Vc.nil ?_
 refine s_in ?_
 refine live [0, 1, 5] [112] (s' := [_, _, _]) (o' := [_]) rfl rfl ?_
 obtain ⟨v1, h1, h⟩ := bnd_some h
 refine aw_to ([(15, .sv (.bool v1))], []) ?_ ?_
 ·
  have h := h1
  refine aw_region ?_
  refine v_op hT hC rfl rfl rfl rfl trivial ?_
  obtain ⟨q2, hq, h⟩ := bnd_some h
  refine v_call hC [] rfl rfl rfl rfl Try.call162 (spec_l13Dots_ac hq) rfl (by decide) trivial rfl (.inl rfl) rfl ?_
  iterate 2 refine v_op hT hC rfl rfl rfl rfl trivial ?_
  rcases sel_some h with ⟨hb1, h⟩ | ⟨hb1, h⟩
  ·
   refine v_on hT hC rfl rfl rfl rfl (congrArg Bool.not hb1) rfl rfl rfl trivial ?_
   obtain ⟨q3, hq, h⟩ := bnd_some h
   refine v_call_on hC [] rfl rfl rfl rfl (congrArg Bool.not hb1) rfl rfl rfl Try.call156 (spec_l09All_ac hq) rfl (by decide) trivial rfl (.inl rfl) rfl ?_
   refine v_on hT hC rfl rfl rfl rfl (congrArg Bool.not hb1) rfl rfl rfl trivial ?_
   refine v_pick hC rfl rfl rfl (b := false) (congrArg Bool.not hb1) rfl rfl rfl trivial ?_
   refine Vc.nil ?_
   injection h with h
   subst h
   refine m_norm ?_
   apply w_conv hC []
   ·
    exact co
   ·
    rfl
   ·
    decide
   ·
    rfl
  ·
   refine v_off hC rfl rfl rfl rfl (congrArg Bool.not hb1) rfl rfl ?_
   refine v_off hC rfl rfl rfl rfl (congrArg Bool.not hb1) rfl rfl ?_
   refine v_off hC rfl rfl rfl rfl (congrArg Bool.not hb1) rfl rfl ?_
   refine v_pick hC rfl rfl rfl (b := true) (congrArg Bool.not hb1) rfl rfl rfl trivial ?_
   refine Vc.nil ?_
   injection h with h
   subst h
   refine m_norm ?_
   apply w_conv hC []
   ·
    exact co
   ·
    rfl
   ·
    decide
   ·
    rfl
 rcases sel_some h with ⟨hb2, h⟩ | ⟨hb2, h⟩
 ·
  refine s_true rfl hb2 ?_
  refine s_reg ?_
  iterate 2 refine v_op hT hC rfl rfl rfl rfl trivial ?_
  refine Vc.nil ?_
  refine aw_ret ?_
  refine t_ret ?_
  injection h with h
  subst h
  refine ends (τ := ⟨[(4, .own 16)], [(16, some (.ints .i64 ([] : List Int)))]⟩) ?_ rfl ⟨rfl, trivial⟩
  apply w_conv hC [(16, 112)]
  ·
   exact co
  ·
   rfl
  ·
   decide
  ·
   rfl
 ·
  refine s_false rfl hb2 ?_
  refine aw_skip ?_
  refine t_norm ?_
  refine s_in ?_
  refine s_reg ?_
  refine v_op hT hC rfl rfl rfl rfl trivial ?_
  refine Vc.nil ?_
  refine live [0, 1, 5, 6] [112] (s' := [_, _, _, _]) (o' := [_]) rfl rfl ?_
  obtain ⟨v9, hl, h⟩ := bnd_some h
  refine s_loop (fun v6 => ([(6, .sv (.int .i64 v6.1))], [(112, some (.ints .i64 v6.2))])) (fun v9 => ([(0, .any), (1, .any), (6, .any)], [(112, some (.ints .i64 v9))])) hl ?_ ?_ ?_
  ·
   try dsimp only
   apply w_conv hC []
   ·
    exact co
   ·
    rfl
   ·
    decide
   ·
    rfl
  ·
   intro v6 s hs
   have h := hs
   unfold spec_Joined_l2 at h
   refine s_in ?_
   refine s_reg ?_
   iterate 2 refine v_op hT hC rfl rfl rfl rfl trivial ?_
   refine Vc.nil ?_
   rcases sel_some h with ⟨hb5, h⟩ | ⟨hb5, h⟩
   ·
    refine s_true rfl hb5 ?_
    refine aw_skip ?_
    refine t_norm ?_
    refine s_in ?_
    refine s_block ?_
    refine aw_draw hm ?_
    iterate 3 refine v_op hT hC rfl rfl rfl rfl trivial ?_
    obtain ⟨hq, h⟩ := req_some h
    refine v_op hT hC rfl rfl rfl rfl hq ?_
    iterate 3 refine v_op hT hC rfl rfl rfl rfl trivial ?_
    obtain ⟨hq, h⟩ := req_some h
    refine v_op hT hC rfl rfl rfl rfl hq ?_
    iterate 2 refine v_op hT hC rfl rfl rfl rfl trivial ?_
    obtain ⟨q10, hq, h⟩ := bnd_some h
    refine v_call hC [] rfl rfl rfl rfl Try.call91 (spec_Brought_ac hq) rfl (by decide) trivial rfl (.inl rfl) rfl ?_
    refine v_op hT hC rfl rfl rfl rfl trivial ?_
    obtain ⟨hq, h⟩ := req_some h
    refine v_op hT hC rfl rfl rfl rfl ⟨trivial, hq⟩ ?_
    refine v_op hT hC rfl rfl rfl rfl trivial ?_
    refine Vc.nil ⟨by kernel_rfl, ?_⟩
    refine b_norm ?_
    refine t_norm ?_
    refine aw_region ?_
    iterate 3 refine v_op hT hC rfl rfl rfl rfl trivial ?_
    refine Vc.nil ?_
    injection h with h
    subst h
    refine r_go ?_
    try dsimp only
    apply w_conv hC [(112, 528)]
    ·
     exact co
    ·
     rfl
    ·
     decide
    ·
     rfl
   ·
    refine s_false rfl hb5 ?_
    refine aw_exit ?_
    refine t_exit ?_
    injection h with h
    subst h
    refine r_exit ?_
    refine o_out ?_
    apply w_conv hC []
    ·
     exact co
    ·
     rfl
    ·
     decide
    ·
     rfl
  refine t_norm ?_
  refine s_reg ?_
  iterate 2 refine v_op hT hC rfl rfl rfl rfl trivial ?_
  refine Vc.nil ?_
  refine aw_ret ?_
  injection h with h
  subst h
  refine ends (τ := ⟨[(4, .own 16)], [(16, some (.ints .i64 v9))]⟩) ?_ rfl ⟨rfl, trivial⟩
  apply w_conv hC [(16, 112)]
  ·
   exact co
  ·
   rfl
  ·
   decide
  ·
   rfl
def spec_SquareDots_res (r : ((List Int) × Bool)) : AV := .tup [.own 16, .sv (.bool r.2)]
def spec_SquareDots_obs (r : ((List Int) × Bool)) : Objs := [(16, .ints .i64 r.1)]
theorem spec_SquareDots_ac {p0 : Pic} {p1 : Pic} {p2 : Int} {p3 : Int} {p4 : Cond} {p5 : Int} {p6 : Int} {p7 : Square} {r : ((List Int) × Bool)} (h : spec_SquareDots p0 p1 p2 p3 p4 p5 p6 p7 = some r) : AC Try.prog 85 [.agg [.sv (.int .i64 p0.Wide), .sv (.int .i64 p0.High), .sv (.str p0.Dots)], .agg [.sv (.int .i64 p1.Wide), .sv (.int .i64 p1.High), .sv (.str p1.Dots)], .sv (.int .i64 p2), .sv (.int .i64 p3), .agg [.sv (.bool p4.Key), .sv (.int .i64 p4.Qp), .sv (.bool p4.Large), .sv (.bool p4.Exact)], .sv (.int .i64 p5), .sv (.int .i64 p6), .agg [.sv (.int .i64 p7.Kind), .sv (.int .i64 p7.Mode), .sv (.int .i64 p7.Dx), .sv (.int .i64 p7.Dy), .sv (.ints .i64 p7.Levels)]] [] (spec_SquareDots_res r) (spec_SquareDots_obs r) := by
 refine ac_of_body hT Try.func85 rfl fun C hC => ?_
 unfold spec_SquareDots at h
 refine s_reg ?_
 iterate 6 refine v_op hT hC rfl rfl rfl rfl trivial ?_
 refine Vc.nil ?_
 refine s_in ?_
 refine live [2, 3, 5, 6, 8, 9, 12, 15] [128, 144, 192, 240] (s' := [_, _, _, _, _, _, _, _]) (o' := [_, _, _, _]) rfl rfl ?_
 obtain ⟨v1, h1, h⟩ := bnd_some h
 refine aw_to ([(49, .sv (.bool v1))], []) ?_ ?_
 ·
  have h := h1
  refine aw_region ?_
  iterate 3 refine v_op hT hC rfl rfl rfl rfl trivial ?_
  obtain ⟨q2, hq, h⟩ := bnd_some h
  refine v_call hC [] rfl rfl rfl rfl Try.call127 (spec_l13Fits_ac hq) rfl (by decide) trivial rfl (.inl rfl) rfl ?_
  iterate 2 refine v_op hT hC rfl rfl rfl rfl trivial ?_
  rcases sel_some h with ⟨hb1, h⟩ | ⟨hb1, h⟩
  ·
   refine v_on hT hC rfl rfl rfl rfl (congrArg Bool.not hb1) rfl rfl rfl trivial ?_
   obtain ⟨q3, hq, h⟩ := bnd_some h
   refine v_call_on hC [] rfl rfl rfl rfl (congrArg Bool.not hb1) rfl rfl rfl Try.call48 (spec_l01In_ac hq) rfl (by decide) trivial rfl (.inl rfl) rfl ?_
   refine v_on hT hC rfl rfl rfl rfl (congrArg Bool.not hb1) rfl rfl rfl trivial ?_
   refine v_pick hC rfl rfl rfl (b := false) (congrArg Bool.not hb1) rfl rfl rfl trivial ?_
   refine v_op hT hC rfl rfl rfl rfl trivial ?_
   rcases sel_some h with ⟨hb2, h⟩ | ⟨hb2, h⟩
   ·
    refine v_on hT hC rfl rfl rfl rfl (congrArg Bool.not hb2) rfl rfl rfl trivial ?_
    obtain ⟨q4, hq, h⟩ := bnd_some h
    refine v_call_on hC [] rfl rfl rfl rfl (congrArg Bool.not hb2) rfl rfl rfl Try.call48 (spec_l01In_ac hq) rfl (by decide) trivial rfl (.inl rfl) rfl ?_
    refine v_on hT hC rfl rfl rfl rfl (congrArg Bool.not hb2) rfl rfl rfl trivial ?_
    refine v_pick hC rfl rfl rfl (b := false) (congrArg Bool.not hb2) rfl rfl rfl trivial ?_
    refine v_op hT hC rfl rfl rfl rfl trivial ?_
    rcases sel_some h with ⟨hb3, h⟩ | ⟨hb3, h⟩
    ·
     refine v_on hT hC rfl rfl rfl rfl (congrArg Bool.not hb3) rfl rfl rfl trivial ?_
     obtain ⟨q5, hq, h⟩ := bnd_some h
     refine v_call_on hC [] rfl rfl rfl rfl (congrArg Bool.not hb3) rfl rfl rfl Try.call125 (spec_SquareOk_ac hq) rfl (by decide) trivial rfl (.inl rfl) rfl ?_
     refine v_on hT hC rfl rfl rfl rfl (congrArg Bool.not hb3) rfl rfl rfl trivial ?_
     refine v_pick hC rfl rfl rfl (b := false) (congrArg Bool.not hb3) rfl rfl rfl trivial ?_
     refine v_op hT hC rfl rfl rfl rfl trivial ?_
     rcases sel_some h with ⟨hb4, h⟩ | ⟨hb4, h⟩
     ·
      refine v_on hT hC rfl rfl rfl rfl (congrArg Bool.not hb4) rfl rfl rfl trivial ?_
      obtain ⟨q6, hq, h⟩ := bnd_some h
      refine v_call_on hC [] rfl rfl rfl rfl (congrArg Bool.not hb4) rfl rfl rfl Try.call124 (spec_CondOk_ac hq) rfl (by decide) trivial rfl (.inl rfl) rfl ?_
      refine v_on hT hC rfl rfl rfl rfl (congrArg Bool.not hb4) rfl rfl rfl trivial ?_
      refine v_pick hC rfl rfl rfl (b := false) (congrArg Bool.not hb4) rfl rfl rfl trivial ?_
      refine Vc.nil ?_
      injection h with h
      subst h
      refine m_norm ?_
      apply w_conv hC []
      ·
       exact co
      ·
       rfl
      ·
       decide
      ·
       rfl
     ·
      refine v_off hC rfl rfl rfl rfl (congrArg Bool.not hb4) rfl rfl ?_
      refine v_off hC rfl rfl rfl rfl (congrArg Bool.not hb4) rfl rfl ?_
      refine v_off hC rfl rfl rfl rfl (congrArg Bool.not hb4) rfl rfl ?_
      refine v_pick hC rfl rfl rfl (b := true) (congrArg Bool.not hb4) rfl rfl rfl trivial ?_
      refine Vc.nil ?_
      injection h with h
      subst h
      refine m_norm ?_
      apply w_conv hC []
      ·
       exact co
      ·
       rfl
      ·
       decide
      ·
       rfl
    ·
     refine v_off hC rfl rfl rfl rfl (congrArg Bool.not hb3) rfl rfl ?_
     refine v_off hC rfl rfl rfl rfl (congrArg Bool.not hb3) rfl rfl ?_
     refine v_off hC rfl rfl rfl rfl (congrArg Bool.not hb3) rfl rfl ?_
     refine v_pick hC rfl rfl rfl (b := true) (congrArg Bool.not hb3) rfl rfl rfl trivial ?_
     refine v_op hT hC rfl rfl rfl rfl trivial ?_
     refine v_off hC rfl rfl rfl rfl rfl rfl rfl ?_
     refine v_off hC rfl rfl rfl rfl rfl rfl rfl ?_
     refine v_off hC rfl rfl rfl rfl rfl rfl rfl ?_
     refine v_op hT hC rfl rfl rfl rfl trivial ?_
     refine Vc.nil ?_
     injection h with h
     subst h
     refine m_norm ?_
     apply w_conv hC []
     ·
      exact co
     ·
      rfl
     ·
      decide
     ·
      rfl
   ·
    refine v_off hC rfl rfl rfl rfl (congrArg Bool.not hb2) rfl rfl ?_
    refine v_off hC rfl rfl rfl rfl (congrArg Bool.not hb2) rfl rfl ?_
    refine v_off hC rfl rfl rfl rfl (congrArg Bool.not hb2) rfl rfl ?_
    refine v_pick hC rfl rfl rfl (b := true) (congrArg Bool.not hb2) rfl rfl rfl trivial ?_
    refine v_op hT hC rfl rfl rfl rfl trivial ?_
    refine v_off hC rfl rfl rfl rfl rfl rfl rfl ?_
    refine v_off hC rfl rfl rfl rfl rfl rfl rfl ?_
    refine v_off hC rfl rfl rfl rfl rfl rfl rfl ?_
    iterate 2 refine v_op hT hC rfl rfl rfl rfl trivial ?_
    refine v_off hC rfl rfl rfl rfl rfl rfl rfl ?_
    refine v_off hC rfl rfl rfl rfl rfl rfl rfl ?_
    refine v_off hC rfl rfl rfl rfl rfl rfl rfl ?_
    refine v_op hT hC rfl rfl rfl rfl trivial ?_
    refine Vc.nil ?_
    injection h with h
    subst h
    refine m_norm ?_
    apply w_conv hC []
    ·
     exact co
    ·
     rfl
    ·
     decide
    ·
     rfl
  ·
   refine v_off hC rfl rfl rfl rfl (congrArg Bool.not hb1) rfl rfl ?_
   refine v_off hC rfl rfl rfl rfl (congrArg Bool.not hb1) rfl rfl ?_
   refine v_off hC rfl rfl rfl rfl (congrArg Bool.not hb1) rfl rfl ?_
   refine v_pick hC rfl rfl rfl (b := true) (congrArg Bool.not hb1) rfl rfl rfl trivial ?_
   refine v_op hT hC rfl rfl rfl rfl trivial ?_
   refine v_off hC rfl rfl rfl rfl rfl rfl rfl ?_
   refine v_off hC rfl rfl rfl rfl rfl rfl rfl ?_
   refine v_off hC rfl rfl rfl rfl rfl rfl rfl ?_
   iterate 2 refine v_op hT hC rfl rfl rfl rfl trivial ?_
   refine v_off hC rfl rfl rfl rfl rfl rfl rfl ?_
   refine v_off hC rfl rfl rfl rfl rfl rfl rfl ?_
   refine v_off hC rfl rfl rfl rfl rfl rfl rfl ?_
   iterate 2 refine v_op hT hC rfl rfl rfl rfl trivial ?_
   refine v_off hC rfl rfl rfl rfl rfl rfl rfl ?_
   refine v_off hC rfl rfl rfl rfl rfl rfl rfl ?_
   refine v_off hC rfl rfl rfl rfl rfl rfl rfl ?_
   refine v_op hT hC rfl rfl rfl rfl trivial ?_
   refine Vc.nil ?_
   injection h with h
   subst h
   refine m_norm ?_
   apply w_conv hC []
   ·
    exact co
   ·
    rfl
   ·
    decide
   ·
    rfl
 rcases sel_some h with ⟨hb5, h⟩ | ⟨hb5, h⟩
 ·
  refine s_true rfl hb5 ?_
  refine s_reg ?_
  iterate 3 refine v_op hT hC rfl rfl rfl rfl trivial ?_
  refine Vc.nil ?_
  refine aw_ret ?_
  refine t_ret ?_
  injection h with h
  subst h
  refine ends (τ := ⟨[(16, .own 16), (17, .sv (.bool false))], [(16, some (.ints .i64 ([] : List Int)))]⟩) ?_ rfl ⟨rfl, trivial⟩
  apply w_conv hC [(16, 800)]
  ·
   exact co
  ·
   rfl
  ·
   decide
  ·
   rfl
 ·
  refine s_false rfl hb5 ?_
  refine aw_skip ?_
  refine t_norm ?_
  refine s_in ?_
  refine s_reg ?_
  iterate 3 refine v_op hT hC rfl rfl rfl rfl trivial ?_
  refine Vc.nil ?_
  rcases sel_some h with ⟨hb6, h⟩ | ⟨hb6, h⟩
  ·
   refine s_true rfl hb6 ?_
   refine s_reg ?_
   iterate 3 refine v_op hT hC rfl rfl rfl rfl trivial ?_
   obtain ⟨q7, hq, h⟩ := bnd_some h
   refine v_call hC [(16, 928), (17, 929)] rfl rfl rfl rfl Try.call128 (spec_EdgesOf_ac hq) rfl (by decide) trivial rfl (.inl rfl) rfl ?_
   iterate 6 refine v_op hT hC rfl rfl rfl rfl trivial ?_
   refine Vc.nil ?_
   refine s_reg ?_
   iterate 3 refine v_op hT hC rfl rfl rfl rfl trivial ?_
   obtain ⟨q8, hq, h⟩ := bnd_some h
   refine v_call hC [(16, 1040)] rfl rfl rfl rfl Try.call129 (spec_LevelsBack_ac hq) rfl (by decide) trivial rfl (.inl rfl) rfl ?_
   iterate 5 refine v_op hT hC rfl rfl rfl rfl trivial ?_
   refine Vc.nil ?_
   refine s_reg ?_
   iterate 3 refine v_op hT hC rfl rfl rfl rfl trivial ?_
   obtain ⟨q9, hq, h⟩ := bnd_some h
   refine v_call hC [(16, 1136)] rfl rfl rfl rfl Try.call131 (spec_GuessOf_ac hq) rfl (by decide) trivial rfl (.inr ⟨rfl, ⟨trivial, trivial⟩⟩) rfl ?_
   refine v_op hT hC rfl rfl rfl rfl trivial ?_
   obtain ⟨q10, hq, h⟩ := bnd_some h
   refine v_call hC [(16, 1168)] rfl rfl rfl rfl Try.call130 (spec_Joined_ac hq) rfl (by decide) trivial rfl (.inr ⟨rfl, ⟨trivial, trivial⟩⟩) rfl ?_
   iterate 2 refine v_op hT hC rfl rfl rfl rfl trivial ?_
   refine Vc.nil ?_
   refine aw_ret ?_
   refine t_ret ?_
   injection h with h
   subst h
   refine ends (τ := ⟨[(16, .own 16), (17, .sv (.bool true))], [(16, some (.ints .i64 q10))]⟩) ?_ rfl ⟨rfl, trivial⟩
   apply w_conv hC [(16, 1168)]
   ·
    exact co
   ·
    rfl
   ·
    decide
   ·
    rfl
  ·
   refine s_false rfl hb6 ?_
   refine aw_skip ?_
   refine t_norm ?_
   refine s_in ?_
   refine live [2, 3, 5, 6, 9, 12, 15] [144, 192, 240] (s' := [_, _, _, _, _, _, _]) (o' := [_, _, _]) rfl rfl ?_
   obtain ⟨v11, h1, h⟩ := bnd_some h
   refine aw_to ([(80, .sv (.bool v11))], []) ?_ ?_
   ·
    have h := h1
    refine aw_region ?_
    iterate 3 refine v_op hT hC rfl rfl rfl rfl trivial ?_
    rcases sel_some h with ⟨hb7, h⟩ | ⟨hb7, h⟩
    ·
     refine v_off hC rfl rfl rfl rfl hb7 rfl rfl ?_
     refine v_off hC rfl rfl rfl rfl hb7 rfl rfl ?_
     refine v_off hC rfl rfl rfl rfl hb7 rfl rfl ?_
     refine v_pick hC rfl rfl rfl (b := true) hb7 rfl rfl rfl trivial ?_
     refine Vc.nil ?_
     injection h with h
     subst h
     refine m_norm ?_
     apply w_conv hC []
     ·
      exact co
     ·
      rfl
     ·
      decide
     ·
      rfl
    ·
     refine v_on hT hC rfl rfl rfl rfl hb7 rfl rfl rfl trivial ?_
     obtain ⟨q12, hq, h⟩ := bnd_some h
     refine v_call_on hC [] rfl rfl rfl rfl hb7 rfl rfl rfl Try.call47 (spec_PicOk_ac hq) rfl (by decide) trivial rfl (.inl rfl) rfl ?_
     refine v_on hT hC rfl rfl rfl rfl hb7 rfl rfl rfl trivial ?_
     refine v_pick hC rfl rfl rfl (b := false) hb7 rfl rfl rfl trivial ?_
     refine Vc.nil ?_
     injection h with h
     subst h
     refine m_norm ?_
     apply w_conv hC []
     ·
      exact co
     ·
      rfl
     ·
      decide
     ·
      rfl
   rcases sel_some h with ⟨hb8, h⟩ | ⟨hb8, h⟩
   ·
    refine s_true rfl hb8 ?_
    refine s_reg ?_
    iterate 3 refine v_op hT hC rfl rfl rfl rfl trivial ?_
    refine Vc.nil ?_
    refine aw_ret ?_
    refine t_ret ?_
    injection h with h
    subst h
    refine ends (τ := ⟨[(16, .own 16), (17, .sv (.bool false))], [(16, some (.ints .i64 ([] : List Int)))]⟩) ?_ rfl ⟨rfl, trivial⟩
    apply w_conv hC [(16, 1296)]
    ·
     exact co
    ·
     rfl
    ·
     decide
    ·
     rfl
   ·
    refine s_false rfl hb8 ?_
    refine aw_skip ?_
    refine t_norm ?_
    refine s_reg ?_
    iterate 13 refine v_op hT hC rfl rfl rfl rfl trivial ?_
    obtain ⟨q13, hq, h⟩ := bnd_some h
    refine v_call hC [(16, 1520)] rfl rfl rfl rfl Try.call12 (spec_BlockOf_ac hq) rfl (by decide) trivial rfl (.inl rfl) rfl ?_
    refine v_op hT hC rfl rfl rfl rfl trivial ?_
    refine Vc.nil ?_
    refine s_in ?_
    refine s_reg ?_
    iterate 3 refine v_op hT hC rfl rfl rfl rfl trivial ?_
    refine Vc.nil ?_
    rcases sel_some h with ⟨hb9, h⟩ | ⟨hb9, h⟩
    ·
     refine s_true rfl hb9 ?_
     refine s_reg ?_
     iterate 3 refine v_op hT hC rfl rfl rfl rfl trivial ?_
     refine Vc.nil ?_
     refine aw_ret ?_
     refine t_ret ?_
     injection h with h
     subst h
     refine ends (τ := ⟨[(16, .own 16), (17, .sv (.bool true))], [(16, some (.ints .i64 q13))]⟩) ?_ rfl ⟨rfl, trivial⟩
     apply w_conv hC [(16, 1520)]
     ·
      exact co
     ·
      rfl
     ·
      decide
     ·
      rfl
    ·
     refine s_false rfl hb9 ?_
     refine aw_skip ?_
     refine t_norm ?_
     refine s_reg ?_
     iterate 3 refine v_op hT hC rfl rfl rfl rfl trivial ?_
     obtain ⟨q14, hq, h⟩ := bnd_some h
     refine v_call hC [(16, 1664)] rfl rfl rfl rfl Try.call129 (spec_LevelsBack_ac hq) rfl (by decide) trivial rfl (.inl rfl) rfl ?_
     iterate 5 refine v_op hT hC rfl rfl rfl rfl trivial ?_
     refine Vc.nil ?_
     refine s_reg ?_
     iterate 2 refine v_op hT hC rfl rfl rfl rfl trivial ?_
     obtain ⟨q15, hq, h⟩ := bnd_some h
     refine v_call hC [(16, 1744)] rfl rfl rfl rfl Try.call130 (spec_Joined_ac hq) rfl (by decide) trivial rfl (.inr ⟨rfl, ⟨trivial, trivial⟩⟩) rfl ?_
     iterate 2 refine v_op hT hC rfl rfl rfl rfl trivial ?_
     refine Vc.nil ?_
     refine aw_ret ?_
     injection h with h
     subst h
     refine ends (τ := ⟨[(16, .own 16), (17, .sv (.bool true))], [(16, some (.ints .i64 q15))]⟩) ?_ rfl ⟨rfl, trivial⟩
     apply w_conv hC [(16, 1744)]
     ·
      exact co
     ·
      rfl
     ·
      decide
     ·
      rfl
def spec_l16Put_res (r : Pic) : AV := .agg [.sv (.int .i64 r.Wide), .sv (.int .i64 r.High), .sv (.str r.Dots)]
def spec_l16Put_obs (r : Pic) : Objs := []
theorem spec_l16Put_ac {p0 : Pic} {p1 : Int} {p2 : Int} {p3 : (List Int)} {r : Pic} (h : spec_l16Put p0 p1 p2 p3 = some r) : AC Try.prog 86 [.agg [.sv (.int .i64 p0.Wide), .sv (.int .i64 p0.High), .sv (.str p0.Dots)], .sv (.int .i64 p1), .sv (.int .i64 p2), .sv (.ints .i64 p3)] [] (spec_l16Put_res r) (spec_l16Put_obs r) := by
 refine ac_of_body hT Try.func86 rfl fun C hC => ?_
 unfold spec_l16Put at h
 refine s_reg ?_
 iterate 2 refine v_op hT hC rfl rfl rfl rfl trivial ?_
 refine Vc.nil ?_
 refine s_reg ?_
 iterate 2 refine v_op hT hC rfl rfl rfl rfl trivial ?_
 obtain ⟨hq, h⟩ := req_some h
 refine v_op hT hC rfl rfl rfl rfl hq ?_
 refine v_op hT hC rfl rfl rfl rfl trivial ?_
 refine Vc.nil ?_
 refine s_in ?_
 refine s_reg ?_
 refine v_op hT hC rfl rfl rfl rfl trivial ?_
 refine Vc.nil ?_
 refine live [1, 2, 3, 4, 8, 9, 10] [64, 128, 208] (s' := [_, _, _, _, _, _, _]) (o' := [_, _, _]) rfl rfl ?_
 obtain ⟨v4, hl, h⟩ := bnd_some h
 refine s_loop (fun v2 => ([(10, .sv (.int .i64 v2.1))], [(208, some (.ints .u8 v2.2))])) (fun v4 => ([(1, .any), (2, .any), (3, .any), (10, .any)], [(208, some (.ints .u8 v4))])) hl ?_ ?_ ?_
 ·
  try dsimp only
  apply w_conv hC []
  ·
   exact co
  ·
   rfl
  ·
   decide
  ·
   rfl
 ·
  intro v2 s hs
  have h := hs
  unfold spec_l16Put_l2 at h
  refine s_in ?_
  refine s_reg ?_
  iterate 2 refine v_op hT hC rfl rfl rfl rfl trivial ?_
  refine Vc.nil ?_
  rcases sel_some h with ⟨hb3, h⟩ | ⟨hb3, h⟩
  ·
   refine s_true rfl hb3 ?_
   refine aw_skip ?_
   refine t_norm ?_
   refine s_in ?_
   refine s_block ?_
   refine aw_draw hm ?_
   iterate 3 refine v_op hT hC rfl rfl rfl rfl trivial ?_
   obtain ⟨hq, h⟩ := req_some h
   refine v_op hT hC rfl rfl rfl rfl hq ?_
   iterate 7 refine v_op hT hC rfl rfl rfl rfl trivial ?_
   obtain ⟨hq, h⟩ := req_some h
   refine v_op hT hC rfl rfl rfl rfl hq ?_
   iterate 3 refine v_op hT hC rfl rfl rfl rfl trivial ?_
   obtain ⟨hq, h⟩ := req_some h
   refine v_op hT hC rfl rfl rfl rfl hq ?_
   iterate 2 refine v_op hT hC rfl rfl rfl rfl trivial ?_
   obtain ⟨hq, h⟩ := req_some h
   refine v_op hT hC rfl rfl rfl rfl hq ?_
   obtain ⟨hq, h⟩ := req_some h
   refine v_op hT hC rfl rfl rfl rfl hq ?_
   refine Vc.nil ⟨by kernel_rfl, ?_⟩
   refine b_norm ?_
   refine t_norm ?_
   refine aw_region ?_
   iterate 3 refine v_op hT hC rfl rfl rfl rfl trivial ?_
   refine Vc.nil ?_
   injection h with h
   subst h
   refine r_go ?_
   try dsimp only
   apply w_conv hC []
   ·
    exact co
   ·
    rfl
   ·
    decide
   ·
    rfl
  ·
   refine s_false rfl hb3 ?_
   refine aw_exit ?_
   refine t_exit ?_
   injection h with h
   subst h
   refine r_exit ?_
   refine o_out ?_
   apply w_conv hC []
   ·
    exact co
   ·
    rfl
   ·
    decide
   ·
    rfl
 refine t_norm ?_
 refine s_reg ?_
 iterate 8 refine v_op hT hC rfl rfl rfl rfl trivial ?_
 refine Vc.nil ?_
 refine aw_ret ?_
 injection h with h
 subst h
 exact ends (Weak.refl _) rfl trivial
def spec_TileBack_res (r : (Pic × Bool)) : AV := .tup [.agg [.sv (.int .i64 r.1.Wide), .sv (.int .i64 r.1.High), .sv (.str r.1.Dots)], .sv (.bool r.2)]
def spec_TileBack_obs (r : (Pic × Bool)) : Objs := []
theorem spec_TileBack_ac {p0 : Pic} {p1 : Rect} {p2 : Cond} {p3 : Bool} {p4 : (List Square)} {r : (Pic × Bool)} (h : spec_TileBack p0 p1 p2 p3 p4 = some r) : AC Try.prog 34 [.agg [.sv (.int .i64 p0.Wide), .sv (.int .i64 p0.High), .sv (.str p0.Dots)], .agg [.sv (.int .i64 p1.Left), .sv (.int .i64 p1.Top), .sv (.int .i64 p1.Wide), .sv (.int .i64 p1.High)], .agg [.sv (.bool p2.Key), .sv (.int .i64 p2.Qp), .sv (.bool p2.Large), .sv (.bool p2.Exact)], .sv (.bool p3), .sv (cSquare.sv p4)] [] (spec_TileBack_res r) (spec_TileBack_obs r) := by
 refine ac_of_body hT Try.func34 rfl fun C hC => ?_
 unfold spec_TileBack at h
 refine s_reg ?_
 iterate 5 refine v_op hT hC rfl rfl rfl rfl trivial ?_
 refine Vc.nil ?_
 refine s_in ?_
 refine live [3, 4, 5, 6, 7, 10] [80, 96, 112, 160] (s' := [_, _, _, _, _, _]) (o' := [_, _, _, _]) rfl rfl ?_
 obtain ⟨v1, h1, h⟩ := bnd_some h
 refine aw_to ([(59, .sv (.bool v1))], []) ?_ ?_
 ·
  have h := h1
  refine aw_region ?_
  iterate 2 refine v_op hT hC rfl rfl rfl rfl trivial ?_
  obtain ⟨q2, hq, h⟩ := bnd_some h
  refine v_call hC [] rfl rfl rfl rfl Try.call80 (spec_l16Side_ac hq) rfl (by decide) trivial rfl (.inl rfl) rfl ?_
  iterate 2 refine v_op hT hC rfl rfl rfl rfl trivial ?_
  rcases sel_some h with ⟨hb1, h⟩ | ⟨hb1, h⟩
  ·
   iterate 2 refine v_on hT hC rfl rfl rfl rfl (congrArg Bool.not hb1) rfl rfl rfl trivial ?_
   obtain ⟨q3, hq, h⟩ := bnd_some h
   refine v_call_on hC [] rfl rfl rfl rfl (congrArg Bool.not hb1) rfl rfl rfl Try.call80 (spec_l16Side_ac hq) rfl (by decide) trivial rfl (.inl rfl) rfl ?_
   refine v_on hT hC rfl rfl rfl rfl (congrArg Bool.not hb1) rfl rfl rfl trivial ?_
   refine v_pick hC rfl rfl rfl (b := false) (congrArg Bool.not hb1) rfl rfl rfl trivial ?_
   refine v_op hT hC rfl rfl rfl rfl trivial ?_
   rcases sel_some h with ⟨hb2, h⟩ | ⟨hb2, h⟩
   ·
    iterate 2 refine v_on hT hC rfl rfl rfl rfl (congrArg Bool.not hb2) rfl rfl rfl trivial ?_
    obtain ⟨q4, hq, h⟩ := bnd_some h
    refine v_call_on hC [] rfl rfl rfl rfl (congrArg Bool.not hb2) rfl rfl rfl Try.call48 (spec_l01In_ac hq) rfl (by decide) trivial rfl (.inl rfl) rfl ?_
    refine v_on hT hC rfl rfl rfl rfl (congrArg Bool.not hb2) rfl rfl rfl trivial ?_
    refine v_pick hC rfl rfl rfl (b := false) (congrArg Bool.not hb2) rfl rfl rfl trivial ?_
    refine v_op hT hC rfl rfl rfl rfl trivial ?_
    rcases sel_some h with ⟨hb3, h⟩ | ⟨hb3, h⟩
    ·
     iterate 2 refine v_on hT hC rfl rfl rfl rfl (congrArg Bool.not hb3) rfl rfl rfl trivial ?_
     obtain ⟨q5, hq, h⟩ := bnd_some h
     refine v_call_on hC [] rfl rfl rfl rfl (congrArg Bool.not hb3) rfl rfl rfl Try.call48 (spec_l01In_ac hq) rfl (by decide) trivial rfl (.inl rfl) rfl ?_
     refine v_on hT hC rfl rfl rfl rfl (congrArg Bool.not hb3) rfl rfl rfl trivial ?_
     refine v_pick hC rfl rfl rfl (b := false) (congrArg Bool.not hb3) rfl rfl rfl trivial ?_
     refine v_op hT hC rfl rfl rfl rfl trivial ?_
     rcases sel_some h with ⟨hb4, h⟩ | ⟨hb4, h⟩
     ·
      iterate 2 refine v_on hT hC rfl rfl rfl rfl (congrArg Bool.not hb4) rfl rfl rfl trivial ?_
      obtain ⟨q6, hq, h⟩ := bnd_some h
      refine v_call_on hC [] rfl rfl rfl rfl (congrArg Bool.not hb4) rfl rfl rfl Try.call81 (spec_l16Ok_ac hq) rfl (by decide) trivial rfl (.inl rfl) rfl ?_
      refine v_on hT hC rfl rfl rfl rfl (congrArg Bool.not hb4) rfl rfl rfl trivial ?_
      refine v_pick hC rfl rfl rfl (b := false) (congrArg Bool.not hb4) rfl rfl rfl trivial ?_
      refine v_op hT hC rfl rfl rfl rfl trivial ?_
      rcases sel_some h with ⟨hb5, h⟩ | ⟨hb5, h⟩
      ·
       iterate 4 refine v_on hT hC rfl rfl rfl rfl (congrArg Bool.not hb5) rfl rfl rfl trivial ?_
       obtain ⟨hq, h⟩ := req_some h
       refine v_on hT hC rfl rfl rfl rfl (congrArg Bool.not hb5) rfl rfl rfl hq ?_
       iterate 2 refine v_on hT hC rfl rfl rfl rfl (congrArg Bool.not hb5) rfl rfl rfl trivial ?_
       obtain ⟨hq, h⟩ := req_some h
       refine v_on hT hC rfl rfl rfl rfl (congrArg Bool.not hb5) rfl rfl rfl hq ?_
       iterate 2 refine v_on hT hC rfl rfl rfl rfl (congrArg Bool.not hb5) rfl rfl rfl trivial ?_
       refine v_pick hC rfl rfl rfl (b := false) (congrArg Bool.not hb5) rfl rfl rfl trivial ?_
       refine Vc.nil ?_
       injection h with h
       subst h
       refine m_norm ?_
       apply w_conv hC []
       ·
        exact co
       ·
        rfl
       ·
        decide
       ·
        rfl
      ·
       refine v_off hC rfl rfl rfl rfl (congrArg Bool.not hb5) rfl rfl ?_
       refine v_off hC rfl rfl rfl rfl (congrArg Bool.not hb5) rfl rfl ?_
       refine v_off hC rfl rfl rfl rfl (congrArg Bool.not hb5) rfl rfl ?_
       refine v_off hC rfl rfl rfl rfl (congrArg Bool.not hb5) rfl rfl ?_
       refine v_off hC rfl rfl rfl rfl (congrArg Bool.not hb5) rfl rfl ?_
       refine v_off hC rfl rfl rfl rfl (congrArg Bool.not hb5) rfl rfl ?_
       refine v_off hC rfl rfl rfl rfl (congrArg Bool.not hb5) rfl rfl ?_
       refine v_off hC rfl rfl rfl rfl (congrArg Bool.not hb5) rfl rfl ?_
       refine v_off hC rfl rfl rfl rfl (congrArg Bool.not hb5) rfl rfl ?_
       refine v_off hC rfl rfl rfl rfl (congrArg Bool.not hb5) rfl rfl ?_
       refine v_pick hC rfl rfl rfl (b := true) (congrArg Bool.not hb5) rfl rfl rfl trivial ?_
       refine Vc.nil ?_
       injection h with h
       subst h
       refine m_norm ?_
       apply w_conv hC []
       ·
        exact co
       ·
        rfl
       ·
        decide
       ·
        rfl
     ·
      refine v_off hC rfl rfl rfl rfl (congrArg Bool.not hb4) rfl rfl ?_
      refine v_off hC rfl rfl rfl rfl (congrArg Bool.not hb4) rfl rfl ?_
      refine v_off hC rfl rfl rfl rfl (congrArg Bool.not hb4) rfl rfl ?_
      refine v_off hC rfl rfl rfl rfl (congrArg Bool.not hb4) rfl rfl ?_
      refine v_pick hC rfl rfl rfl (b := true) (congrArg Bool.not hb4) rfl rfl rfl trivial ?_
      refine v_op hT hC rfl rfl rfl rfl trivial ?_
      refine v_off hC rfl rfl rfl rfl rfl rfl rfl ?_
      refine v_off hC rfl rfl rfl rfl rfl rfl rfl ?_
      refine v_off hC rfl rfl rfl rfl rfl rfl rfl ?_
      refine v_off hC rfl rfl rfl rfl rfl rfl rfl ?_
      refine v_off hC rfl rfl rfl rfl rfl rfl rfl ?_
      refine v_off hC rfl rfl rfl rfl rfl rfl rfl ?_
      refine v_off hC rfl rfl rfl rfl rfl rfl rfl ?_
      refine v_off hC rfl rfl rfl rfl rfl rfl rfl ?_
      refine v_off hC rfl rfl rfl rfl rfl rfl rfl ?_
      refine v_off hC rfl rfl rfl rfl rfl rfl rfl ?_
      refine v_op hT hC rfl rfl rfl rfl trivial ?_
      refine Vc.nil ?_
      injection h with h
      subst h
      refine m_norm ?_
      apply w_conv hC []
      ·
       exact co
      ·
       rfl
      ·
       decide
      ·
       rfl
    ·
     refine v_off hC rfl rfl rfl rfl (congrArg Bool.not hb3) rfl rfl ?_
     refine v_off hC rfl rfl rfl rfl (congrArg Bool.not hb3) rfl rfl ?_
     refine v_off hC rfl rfl rfl rfl (congrArg Bool.not hb3) rfl rfl ?_
     refine v_off hC rfl rfl rfl rfl (congrArg Bool.not hb3) rfl rfl ?_
     refine v_pick hC rfl rfl rfl (b := true) (congrArg Bool.not hb3) rfl rfl rfl trivial ?_
     refine v_op hT hC rfl rfl rfl rfl trivial ?_
     refine v_off hC rfl rfl rfl rfl rfl rfl rfl ?_
     refine v_off hC rfl rfl rfl rfl rfl rfl rfl ?_
     refine v_off hC rfl rfl rfl rfl rfl rfl rfl ?_
     refine v_off hC rfl rfl rfl rfl rfl rfl rfl ?_
     iterate 2 refine v_op hT hC rfl rfl rfl rfl trivial ?_
     refine v_off hC rfl rfl rfl rfl rfl rfl rfl ?_
     refine v_off hC rfl rfl rfl rfl rfl rfl rfl ?_
     refine v_off hC rfl rfl rfl rfl rfl rfl rfl ?_
     refine v_off hC rfl rfl rfl rfl rfl rfl rfl ?_
     refine v_off hC rfl rfl rfl rfl rfl rfl rfl ?_
     refine v_off hC rfl rfl rfl rfl rfl rfl rfl ?_
     refine v_off hC rfl rfl rfl rfl rfl rfl rfl ?_
     refine v_off hC rfl rfl rfl rfl rfl rfl rfl ?_
     refine v_off hC rfl rfl rfl rfl rfl rfl rfl ?_
     refine v_off hC rfl rfl rfl rfl rfl rfl rfl ?_
     refine v_op hT hC rfl rfl rfl rfl trivial ?_
     refine Vc.nil ?_
     injection h with h
     subst h
     refine m_norm ?_
     apply w_conv hC []
     ·
      exact co
     ·
      rfl
     ·
      decide
     ·
      rfl
   ·
    refine v_off hC rfl rfl rfl rfl (congrArg Bool.not hb2) rfl rfl ?_
    refine v_off hC rfl rfl rfl rfl (congrArg Bool.not hb2) rfl rfl ?_
    refine v_off hC rfl rfl rfl rfl (congrArg Bool.not hb2) rfl rfl ?_
    refine v_off hC rfl rfl rfl rfl (congrArg Bool.not hb2) rfl rfl ?_
    refine v_pick hC rfl rfl rfl (b := true) (congrArg Bool.not hb2) rfl rfl rfl trivial ?_
    refine v_op hT hC rfl rfl rfl rfl trivial ?_
    refine v_off hC rfl rfl rfl rfl rfl rfl rfl ?_
    refine v_off hC rfl rfl rfl rfl rfl rfl rfl ?_
    refine v_off hC rfl rfl rfl rfl rfl rfl rfl ?_
    refine v_off hC rfl rfl rfl rfl rfl rfl rfl ?_
    iterate 2 refine v_op hT hC rfl rfl rfl rfl trivial ?_
    refine v_off hC rfl rfl rfl rfl rfl rfl rfl ?_
    refine v_off hC rfl rfl rfl rfl rfl rfl rfl ?_
    refine v_off hC rfl rfl rfl rfl rfl rfl rfl ?_
    refine v_off hC rfl rfl rfl rfl rfl rfl rfl ?_
    iterate 2 refine v_op hT hC rfl rfl rfl rfl trivial ?_
    refine v_off hC rfl rfl rfl rfl rfl rfl rfl ?_
    refine v_off hC rfl rfl rfl rfl rfl rfl rfl ?_
    refine v_off hC rfl rfl rfl rfl rfl rfl rfl ?_
    refine v_off hC rfl rfl rfl rfl rfl rfl rfl ?_
    refine v_off hC rfl rfl rfl rfl rfl rfl rfl ?_
    refine v_off hC rfl rfl rfl rfl rfl rfl rfl ?_
    refine v_off hC rfl rfl rfl rfl rfl rfl rfl ?_
    refine v_off hC rfl rfl rfl rfl rfl rfl rfl ?_
    refine v_off hC rfl rfl rfl rfl rfl rfl rfl ?_
    refine v_off hC rfl rfl rfl rfl rfl rfl rfl ?_
    refine v_op hT hC rfl rfl rfl rfl trivial ?_
    refine Vc.nil ?_
    injection h with h
    subst h
    refine m_norm ?_
    apply w_conv hC []
    ·
     exact co
    ·
     rfl
    ·
     decide
    ·
     rfl
  ·
   refine v_off hC rfl rfl rfl rfl (congrArg Bool.not hb1) rfl rfl ?_
   refine v_off hC rfl rfl rfl rfl (congrArg Bool.not hb1) rfl rfl ?_
   refine v_off hC rfl rfl rfl rfl (congrArg Bool.not hb1) rfl rfl ?_
   refine v_off hC rfl rfl rfl rfl (congrArg Bool.not hb1) rfl rfl ?_
   refine v_pick hC rfl rfl rfl (b := true) (congrArg Bool.not hb1) rfl rfl rfl trivial ?_
   refine v_op hT hC rfl rfl rfl rfl trivial ?_
   refine v_off hC rfl rfl rfl rfl rfl rfl rfl ?_
   refine v_off hC rfl rfl rfl rfl rfl rfl rfl ?_
   refine v_off hC rfl rfl rfl rfl rfl rfl rfl ?_
   refine v_off hC rfl rfl rfl rfl rfl rfl rfl ?_
   iterate 2 refine v_op hT hC rfl rfl rfl rfl trivial ?_
   refine v_off hC rfl rfl rfl rfl rfl rfl rfl ?_
   refine v_off hC rfl rfl rfl rfl rfl rfl rfl ?_
   refine v_off hC rfl rfl rfl rfl rfl rfl rfl ?_
   refine v_off hC rfl rfl rfl rfl rfl rfl rfl ?_
   iterate 2 refine v_op hT hC rfl rfl rfl rfl trivial ?_
   refine v_off hC rfl rfl rfl rfl rfl rfl rfl ?_
   refine v_off hC rfl rfl rfl rfl rfl rfl rfl ?_
   refine v_off hC rfl rfl rfl rfl rfl rfl rfl ?_
   refine v_off hC rfl rfl rfl rfl rfl rfl rfl ?_
   iterate 2 refine v_op hT hC rfl rfl rfl rfl trivial ?_
   refine v_off hC rfl rfl rfl rfl rfl rfl rfl ?_
   refine v_off hC rfl rfl rfl rfl rfl rfl rfl ?_
   refine v_off hC rfl rfl rfl rfl rfl rfl rfl ?_
   refine v_off hC rfl rfl rfl rfl rfl rfl rfl ?_
   refine v_off hC rfl rfl rfl rfl rfl rfl rfl ?_
   refine v_off hC rfl rfl rfl rfl rfl rfl rfl ?_
   refine v_off hC rfl rfl rfl rfl rfl rfl rfl ?_
   refine v_off hC rfl rfl rfl rfl rfl rfl rfl ?_
   refine v_off hC rfl rfl rfl rfl rfl rfl rfl ?_
   refine v_off hC rfl rfl rfl rfl rfl rfl rfl ?_
   refine v_op hT hC rfl rfl rfl rfl trivial ?_
   refine Vc.nil ?_
   injection h with h
   subst h
   refine m_norm ?_
   apply w_conv hC []
   ·
    exact co
   ·
    rfl
   ·
    decide
   ·
    rfl
 rcases sel_some h with ⟨hb6, h⟩ | ⟨hb6, h⟩
 ·
  refine s_true rfl hb6 ?_
  refine s_reg ?_
  iterate 3 refine v_op hT hC rfl rfl rfl rfl trivial ?_
  refine Vc.nil ?_
  refine aw_ret ?_
  refine t_ret ?_
  injection h with h
  subst h
  exact ends (Weak.refl _) rfl trivial
 ·
  refine s_false rfl hb6 ?_
  refine aw_skip ?_
  refine t_norm ?_
  refine s_in ?_
  refine live [3, 4, 5, 6, 7, 10] [80, 96, 112, 160] (s' := [_, _, _, _, _, _]) (o' := [_, _, _, _]) rfl rfl ?_
  obtain ⟨v7, h1, h⟩ := bnd_some h
  refine aw_to ([(76, .sv (.bool v7))], []) ?_ ?_
  ·
   have h := h1
   refine aw_region ?_
   iterate 4 refine v_op hT hC rfl rfl rfl rfl trivial ?_
   rcases sel_some h with ⟨hb7, h⟩ | ⟨hb7, h⟩
   ·
    refine v_off hC rfl rfl rfl rfl (congrArg Bool.not hb7) rfl rfl ?_
    refine v_off hC rfl rfl rfl rfl (congrArg Bool.not hb7) rfl rfl ?_
    refine v_off hC rfl rfl rfl rfl (congrArg Bool.not hb7) rfl rfl ?_
    refine v_off hC rfl rfl rfl rfl (congrArg Bool.not hb7) rfl rfl ?_
    refine v_off hC rfl rfl rfl rfl (congrArg Bool.not hb7) rfl rfl ?_
    refine v_off hC rfl rfl rfl rfl (congrArg Bool.not hb7) rfl rfl ?_
    refine v_off hC rfl rfl rfl rfl (congrArg Bool.not hb7) rfl rfl ?_
    refine v_off hC rfl rfl rfl rfl (congrArg Bool.not hb7) rfl rfl ?_
    refine v_off hC rfl rfl rfl rfl (congrArg Bool.not hb7) rfl rfl ?_
    refine v_off hC rfl rfl rfl rfl (congrArg Bool.not hb7) rfl rfl ?_
    refine v_off hC rfl rfl rfl rfl (congrArg Bool.not hb7) rfl rfl ?_
    refine v_pick hC rfl rfl rfl (b := false) (congrArg Bool.not hb7) rfl rfl rfl trivial ?_
    refine Vc.nil ?_
    injection h with h
    subst h
    refine m_norm ?_
    apply w_conv hC []
    ·
     exact co
    ·
     rfl
    ·
     decide
    ·
     rfl
   ·
    iterate 9 refine v_on hT hC rfl rfl rfl rfl (congrArg Bool.not hb7) rfl rfl rfl trivial ?_
    obtain ⟨q8, hq, h⟩ := bnd_some h
    refine v_call_on hC [] rfl rfl rfl rfl (congrArg Bool.not hb7) rfl rfl rfl Try.call82 (spec_l12Within_ac hq) rfl (by decide) trivial rfl (.inl rfl) rfl ?_
    refine v_on hT hC rfl rfl rfl rfl (congrArg Bool.not hb7) rfl rfl rfl trivial ?_
    refine v_pick hC rfl rfl rfl (b := true) (congrArg Bool.not hb7) rfl rfl rfl trivial ?_
    refine Vc.nil ?_
    injection h with h
    subst h
    refine m_norm ?_
    apply w_conv hC []
    ·
     exact co
    ·
     rfl
    ·
     decide
    ·
     rfl
  rcases sel_some h with ⟨hb8, h⟩ | ⟨hb8, h⟩
  ·
   refine s_true rfl hb8 ?_
   refine s_reg ?_
   iterate 3 refine v_op hT hC rfl rfl rfl rfl trivial ?_
   refine Vc.nil ?_
   refine aw_ret ?_
   refine t_ret ?_
   injection h with h
   subst h
   exact ends (Weak.refl _) rfl trivial
  ·
   refine s_false rfl hb8 ?_
   refine aw_skip ?_
   refine t_norm ?_
   refine s_reg ?_
   iterate 3 refine v_op hT hC rfl rfl rfl rfl trivial ?_
   refine Vc.nil ?_
   refine s_reg ?_
   iterate 3 refine v_op hT hC rfl rfl rfl rfl trivial ?_
   refine Vc.nil ?_
   refine live [3, 4, 5, 6, 7, 10, 12, 13] [80, 96, 112, 160] (s' := [_, _, _, _, _, _, _, _]) (o' := [_, _, _, _]) rfl rfl ?_
   obtain ⟨v9, h1, h⟩ := bnd_some h
   refine aw_to ([(12, .sv (.int .i64 v9.1)), (13, .sv (.int .i64 v9.2.1)), (3, .any)], [(80, some (.box [.sv (.int .i64 v9.2.2.1), .sv (.int .i64 v9.2.2.2.1), .sv (.str v9.2.2.2.2)]))]) ?_ ?_
   ·
    have h := h1
    refine live [3, 4, 5, 6, 7, 10, 12, 13] [80, 96, 112, 160] (s' := [_, _, _, _, _, _, _, _]) (o' := [_, _, _, _]) rfl rfl ?_
    obtain ⟨v10, h1, h⟩ := bnd_some h
    refine aw_to ([(87, .sv (.bool v10)), (3, .any)], []) ?_ ?_
    ·
     have h := h1
     refine aw_region ?_
     iterate 4 refine v_op hT hC rfl rfl rfl rfl trivial ?_
     rcases sel_some h with ⟨hb9, h⟩ | ⟨hb9, h⟩
     ·
      refine v_off hC rfl rfl rfl rfl (congrArg Bool.not hb9) rfl rfl ?_
      refine v_pick hC rfl rfl rfl (b := false) (congrArg Bool.not hb9) rfl rfl rfl trivial ?_
      refine Vc.nil ?_
      injection h with h
      subst h
      refine m_norm ?_
      apply w_conv hC []
      ·
       exact co
      ·
       rfl
      ·
       decide
      ·
       rfl
     ·
      refine v_on hT hC rfl rfl rfl rfl (congrArg Bool.not hb9) rfl rfl rfl trivial ?_
      refine v_pick hC rfl rfl rfl (b := true) (congrArg Bool.not hb9) rfl rfl rfl trivial ?_
      refine Vc.nil ?_
      injection h with h
      subst h
      refine m_norm ?_
      apply w_conv hC []
      ·
       exact co
      ·
       rfl
      ·
       decide
      ·
       rfl
    rcases sel_some h with ⟨hb10, h⟩ | ⟨hb10, h⟩
    ·
     refine s_true rfl hb10 ?_
     refine s_reg ?_
     iterate 2 refine v_op hT hC rfl rfl rfl rfl trivial ?_
     obtain ⟨q11, hq, h⟩ := bnd_some h
     refine v_call hC [] rfl rfl rfl rfl Try.call83 (spec_CutOf_ac hq) rfl (by decide) trivial rfl (.inl rfl) rfl ?_
     iterate 4 refine v_op hT hC rfl rfl rfl rfl trivial ?_
     refine Vc.nil ?_
     refine s_reg ?_
     refine v_op hT hC rfl rfl rfl rfl trivial ?_
     refine Vc.nil ?_
     refine aw_region ?_
     refine v_op hT hC rfl rfl rfl rfl trivial ?_
     refine Vc.nil ?_
     injection h with h
     subst h
     refine m_norm ?_
     try dsimp only
     apply w_conv hC []
     ·
      exact co
     ·
      rfl
     ·
      decide
     ·
      rfl
    ·
     refine s_false rfl hb10 ?_
     refine aw_skip ?_
     injection h with h
     subst h
     refine m_norm ?_
     try dsimp only
     apply w_conv hC []
     ·
      exact co
     ·
      rfl
     ·
      decide
     ·
      rfl
   refine s_reg ?_
   iterate 4 refine v_op hT hC rfl rfl rfl rfl trivial ?_
   obtain ⟨q12, hq, h⟩ := bnd_some h
   refine v_call hC [] rfl rfl rfl rfl Try.call84 (spec_Grey_ac hq) rfl (by decide) trivial rfl (.inl rfl) rfl ?_
   iterate 2 refine v_op hT hC rfl rfl rfl rfl trivial ?_
   refine Vc.nil ?_
   refine s_in ?_
   refine s_reg ?_
   refine v_op hT hC rfl rfl rfl rfl trivial ?_
   refine Vc.nil ?_
   refine live [4, 5, 6, 7, 10, 12, 13, 14, 15] [80, 96, 112, 160, 224] (s' := [_, _, _, _, _, _, _, _, _]) (o' := [_, _, _, _, _]) rfl rfl ?_
   obtain ⟨v20, hl, h⟩ := bnd_some h
   refine s_loop (fun v16 => ([(15, .sv (.int .i64 v16.1))], [(224, some (.box [.sv (.int .i64 v16.2.1), .sv (.int .i64 v16.2.2.1), .sv (.str v16.2.2.2)]))])) (fun v20 => ([(4, .any), (5, .any), (6, .any), (7, .any), (12, .any), (13, .any), (15, .any)], [(224, some (.box [.sv (.int .i64 v20.1), .sv (.int .i64 v20.2.1), .sv (.str v20.2.2)])), (80, none), (96, none), (112, none)])) hl ?_ ?_ ?_
   ·
    try dsimp only
    apply w_conv hC []
    ·
     exact co
    ·
     rfl
    ·
     decide
    ·
     rfl
   ·
    intro v16 s hs
    have h := hs
    unfold spec_TileBack_l2 at h
    refine s_in ?_
    refine s_reg ?_
    iterate 4 refine v_op hT hC rfl rfl rfl rfl trivial ?_
    refine Vc.nil ?_
    rcases sel_some h with ⟨hb13, h⟩ | ⟨hb13, h⟩
    ·
     refine s_true rfl hb13 ?_
     refine aw_skip ?_
     refine t_norm ?_
     refine s_in ?_
     refine s_block ?_
     refine s_reg ?_
     iterate 3 refine v_op hT hC rfl rfl rfl rfl trivial ?_
     obtain ⟨hq, h⟩ := req_some h
     refine v_op hT hC rfl rfl rfl rfl hq ?_
     obtain ⟨hq, h⟩ := req_some h
     refine v_op hT hC rfl rfl rfl rfl hq ?_
     iterate 2 refine v_op hT hC rfl rfl rfl rfl trivial ?_
     refine Vc.nil ?_
     refine s_reg ?_
     iterate 3 refine v_op hT hC rfl rfl rfl rfl trivial ?_
     obtain ⟨hq, h⟩ := req_some h
     refine v_op hT hC rfl rfl rfl rfl hq ?_
     obtain ⟨hq, h⟩ := req_some h
     refine v_op hT hC rfl rfl rfl rfl hq ?_
     iterate 2 refine v_op hT hC rfl rfl rfl rfl trivial ?_
     refine Vc.nil ?_
     refine s_draw hm ?_
     iterate 9 refine v_op hT hC rfl rfl rfl rfl trivial ?_
     obtain ⟨hq, h⟩ := req_some h
     refine v_op hT hC rfl rfl rfl rfl hq ?_
     refine v_op hT hC rfl rfl rfl rfl trivial ?_
     obtain ⟨q21, hq, h⟩ := bnd_some h
     refine v_call hC [(16, 2064)] rfl rfl rfl rfl Try.call85 (spec_SquareDots_ac hq) rfl (by decide) trivial rfl (.inl rfl) rfl ?_
     iterate 5 refine v_op hT hC rfl rfl rfl rfl trivial ?_
     refine Vc.nil ⟨by kernel_rfl, ?_⟩
     refine aw_region ?_
     iterate 4 refine v_op hT hC rfl rfl rfl rfl trivial ?_
     obtain ⟨q22, hq, h⟩ := bnd_some h
     refine v_call hC [] rfl rfl rfl rfl Try.call86 (spec_l16Put_ac hq) rfl (by decide) trivial rfl (.inr ⟨rfl, trivial⟩) rfl ?_
     refine v_op hT hC rfl rfl rfl rfl trivial ?_
     refine Vc.nil ?_
     refine b_norm ?_
     refine t_norm ?_
     refine aw_region ?_
     iterate 3 refine v_op hT hC rfl rfl rfl rfl trivial ?_
     refine Vc.nil ?_
     injection h with h
     subst h
     refine r_go ?_
     try dsimp only
     apply w_conv hC []
     ·
      exact co
     ·
      rfl
     ·
      decide
     ·
      rfl
    ·
     refine s_false rfl hb13 ?_
     refine aw_exit ?_
     refine t_exit ?_
     injection h with h
     subst h
     refine r_exit ?_
     refine o_out ?_
     try dsimp only
     apply w_conv hC []
     ·
      exact co
     ·
      rfl
     ·
      decide
     ·
      rfl
   refine t_norm ?_
   refine s_reg ?_
   iterate 3 refine v_op hT hC rfl rfl rfl rfl trivial ?_
   refine Vc.nil ?_
   refine aw_ret ?_
   injection h with h
   subst h
   exact ends (Weak.refl _) rfl trivial
def laws_eqPic_res (r : Bool) : AV := .sv (.bool r)
def laws_eqPic_obs (r : Bool) : Objs := []
theorem laws_eqPic_ac {p0 : Pic} {p1 : Pic} {r : Bool} (h : laws_eqPic p0 p1 = some r) : AC Try.prog 39 [.agg [.sv (.int .i64 p0.Wide), .sv (.int .i64 p0.High), .sv (.str p0.Dots)], .agg [.sv (.int .i64 p1.Wide), .sv (.int .i64 p1.High), .sv (.str p1.Dots)]] [] (laws_eqPic_res r) (laws_eqPic_obs r) := by
 refine ac_of_body hT Try.func39 rfl fun C hC => ?_
 unfold laws_eqPic at h
 refine s_reg ?_
 iterate 3 refine v_op hT hC rfl rfl rfl rfl trivial ?_
 refine Vc.nil ?_
 refine s_in ?_
 refine s_reg ?_
 iterate 5 refine v_op hT hC rfl rfl rfl rfl trivial ?_
 refine Vc.nil ?_
 rcases sel_some h with ⟨hb1, h⟩ | ⟨hb1, h⟩
 ·
  refine s_true rfl hb1 ?_
  refine s_reg ?_
  refine v_op hT hC rfl rfl rfl rfl trivial ?_
  refine Vc.nil ?_
  refine aw_ret ?_
  refine t_ret ?_
  injection h with h
  subst h
  exact ends (Weak.refl _) rfl trivial
 ·
  refine s_false rfl hb1 ?_
  refine aw_skip ?_
  refine t_norm ?_
  refine s_in ?_
  refine s_reg ?_
  iterate 5 refine v_op hT hC rfl rfl rfl rfl trivial ?_
  refine Vc.nil ?_
  rcases sel_some h with ⟨hb2, h⟩ | ⟨hb2, h⟩
  ·
   refine s_true rfl hb2 ?_
   refine s_reg ?_
   refine v_op hT hC rfl rfl rfl rfl trivial ?_
   refine Vc.nil ?_
   refine aw_ret ?_
   refine t_ret ?_
   injection h with h
   subst h
   exact ends (Weak.refl _) rfl trivial
  ·
   refine s_false rfl hb2 ?_
   refine aw_skip ?_
   refine t_norm ?_
   refine s_in ?_
   refine s_reg ?_
   iterate 5 refine v_op hT hC rfl rfl rfl rfl trivial ?_
   refine Vc.nil ?_
   rcases sel_some h with ⟨hb3, h⟩ | ⟨hb3, h⟩
   ·
    refine s_true rfl hb3 ?_
    refine s_reg ?_
    refine v_op hT hC rfl rfl rfl rfl trivial ?_
    refine Vc.nil ?_
    refine aw_ret ?_
    refine t_ret ?_
    injection h with h
    subst h
    exact ends (Weak.refl _) rfl trivial
   ·
    refine s_false rfl hb3 ?_
    refine aw_skip ?_
    refine t_norm ?_
    refine s_reg ?_
    refine v_op hT hC rfl rfl rfl rfl trivial ?_
    refine Vc.nil ?_
    refine aw_ret ?_
    injection h with h
    subst h
    exact ends (Weak.refl _) rfl trivial
def laws_eqIntS_res (r : Bool) : AV := .sv (.bool r)
def laws_eqIntS_obs (r : Bool) : Objs := []
theorem laws_eqIntS_ac {p0 : (List Int)} {p1 : (List Int)} {r : Bool} (h : laws_eqIntS p0 p1 = some r) : AC Try.prog 133 [.sv (.ints .i64 p0), .sv (.ints .i64 p1)] [] (laws_eqIntS_res r) (laws_eqIntS_obs r) := by
 refine ac_of_body hT Try.func133 rfl fun C hC => ?_
 unfold laws_eqIntS at h
 refine s_reg ?_
 refine v_op hT hC rfl rfl rfl rfl trivial ?_
 refine Vc.nil ?_
 refine s_in ?_
 refine s_reg ?_
 iterate 5 refine v_op hT hC rfl rfl rfl rfl trivial ?_
 refine Vc.nil ?_
 rcases sel_some h with ⟨hb1, h⟩ | ⟨hb1, h⟩
 ·
  refine s_true rfl hb1 ?_
  refine s_reg ?_
  refine v_op hT hC rfl rfl rfl rfl trivial ?_
  refine Vc.nil ?_
  refine aw_ret ?_
  refine t_ret ?_
  injection h with h
  subst h
  exact ends (Weak.refl _) rfl trivial
 ·
  refine s_false rfl hb1 ?_
  refine aw_skip ?_
  refine t_norm ?_
  refine s_in ?_
  refine s_reg ?_
  refine v_op hT hC rfl rfl rfl rfl trivial ?_
  refine Vc.nil ?_
  refine live [0, 1, 5] [] (s' := [_, _, _]) (o' := []) rfl rfl ?_
  obtain ⟨o5, hl, h⟩ := bnd_some h
  refine s_loopR (fun v2 => ([(5, .sv (.int .i64 v2))], [])) (fun v4 => ([(0, .any), (1, .any), (5, .any)], [])) (fun r => EndsA C T Try.f133.results.toList (laws_eqIntS_res r) (laws_eqIntS_obs r)) hl ?_ ?_ ?_ ?_
  ·
   apply w_conv hC []
   ·
    exact co
   ·
    rfl
   ·
    decide
   ·
    rfl
  ·
   intro v2 s hs
   have h := hs
   unfold laws_eqIntS_l2 at h
   refine s_in ?_
   refine s_reg ?_
   iterate 4 refine v_op hT hC rfl rfl rfl rfl trivial ?_
   refine Vc.nil ?_
   rcases sel_some h with ⟨hb6, h⟩ | ⟨hb6, h⟩
   ·
    refine s_true rfl hb6 ?_
    refine aw_skip ?_
    refine t_norm ?_
    refine s_in ?_
    refine s_block ?_
    refine s_draw hm ?_
    iterate 2 refine v_op hT hC rfl rfl rfl rfl trivial ?_
    obtain ⟨hq, h⟩ := req_some h
    refine v_op hT hC rfl rfl rfl rfl hq ?_
    iterate 3 refine v_op hT hC rfl rfl rfl rfl trivial ?_
    obtain ⟨hq, h⟩ := req_some h
    refine v_op hT hC rfl rfl rfl rfl hq ?_
    iterate 2 refine v_op hT hC rfl rfl rfl rfl trivial ?_
    refine Vc.nil ⟨by kernel_rfl, ?_⟩
    rcases sel_some h with ⟨hb7, h⟩ | ⟨hb7, h⟩
    ·
     refine s_true rfl hb7 ?_
     refine s_reg ?_
     refine v_op hT hC rfl rfl rfl rfl trivial ?_
     refine Vc.nil ?_
     refine aw_ret ?_
     refine b_ret ?_
     refine t_ret ?_
     injection h with h
     subst h
     refine r_ret ?_
     refine o_ret ?_
     exact ends (Weak.refl _) rfl trivial
    ·
     refine s_false rfl hb7 ?_
     refine aw_skip ?_
     refine b_norm ?_
     refine t_norm ?_
     refine aw_region ?_
     iterate 3 refine v_op hT hC rfl rfl rfl rfl trivial ?_
     refine Vc.nil ?_
     injection h with h
     subst h
     refine r_go ?_
     apply w_conv hC []
     ·
      exact co
     ·
      rfl
     ·
      decide
     ·
      rfl
   ·
    refine s_false rfl hb6 ?_
    refine aw_exit ?_
    refine t_exit ?_
    injection h with h
    subst h
    refine r_exit ?_
    refine o_both ?_
    apply w_conv hC []
    ·
     exact co
    ·
     rfl
    ·
     decide
    ·
     rfl
  ·
   intro v4 e
   subst e
   refine t_norm ?_
   refine s_reg ?_
   refine v_op hT hC rfl rfl rfl rfl trivial ?_
   refine Vc.nil ?_
   refine aw_ret ?_
   injection h with h
   subst h
   exact ends (Weak.refl _) rfl trivial
  ·
   intro r' σ' e hE
   subst e
   injection h with h
   subst h
   refine t_ret ?_
   exact hE
def laws_eqSquare_res (r : Bool) : AV := .sv (.bool r)
def laws_eqSquare_obs (r : Bool) : Objs := []
theorem laws_eqSquare_ac {p0 : Square} {p1 : Square} {r : Bool} (h : laws_eqSquare p0 p1 = some r) : AC Try.prog 88 [.agg [.sv (.int .i64 p0.Kind), .sv (.int .i64 p0.Mode), .sv (.int .i64 p0.Dx), .sv (.int .i64 p0.Dy), .sv (.ints .i64 p0.Levels)], .agg [.sv (.int .i64 p1.Kind), .sv (.int .i64 p1.Mode), .sv (.int .i64 p1.Dx), .sv (.int .i64 p1.Dy), .sv (.ints .i64 p1.Levels)]] [] (laws_eqSquare_res r) (laws_eqSquare_obs r) := by
 refine ac_of_body hT Try.func88 rfl fun C hC => ?_
 unfold laws_eqSquare at h
 refine s_reg ?_
 iterate 3 refine v_op hT hC rfl rfl rfl rfl trivial ?_
 refine Vc.nil ?_
 refine s_in ?_
 refine s_reg ?_
 iterate 5 refine v_op hT hC rfl rfl rfl rfl trivial ?_
 refine Vc.nil ?_
 rcases sel_some h with ⟨hb1, h⟩ | ⟨hb1, h⟩
 ·
  refine s_true rfl hb1 ?_
  refine s_reg ?_
  refine v_op hT hC rfl rfl rfl rfl trivial ?_
  refine Vc.nil ?_
  refine aw_ret ?_
  refine t_ret ?_
  injection h with h
  subst h
  exact ends (Weak.refl _) rfl trivial
 ·
  refine s_false rfl hb1 ?_
  refine aw_skip ?_
  refine t_norm ?_
  refine s_in ?_
  refine s_reg ?_
  iterate 5 refine v_op hT hC rfl rfl rfl rfl trivial ?_
  refine Vc.nil ?_
  rcases sel_some h with ⟨hb2, h⟩ | ⟨hb2, h⟩
  ·
   refine s_true rfl hb2 ?_
   refine s_reg ?_
   refine v_op hT hC rfl rfl rfl rfl trivial ?_
   refine Vc.nil ?_
   refine aw_ret ?_
   refine t_ret ?_
   injection h with h
   subst h
   exact ends (Weak.refl _) rfl trivial
  ·
   refine s_false rfl hb2 ?_
   refine aw_skip ?_
   refine t_norm ?_
   refine s_in ?_
   refine s_reg ?_
   iterate 5 refine v_op hT hC rfl rfl rfl rfl trivial ?_
   refine Vc.nil ?_
   rcases sel_some h with ⟨hb3, h⟩ | ⟨hb3, h⟩
   ·
    refine s_true rfl hb3 ?_
    refine s_reg ?_
    refine v_op hT hC rfl rfl rfl rfl trivial ?_
    refine Vc.nil ?_
    refine aw_ret ?_
    refine t_ret ?_
    injection h with h
    subst h
    exact ends (Weak.refl _) rfl trivial
   ·
    refine s_false rfl hb3 ?_
    refine aw_skip ?_
    refine t_norm ?_
    refine s_in ?_
    refine s_reg ?_
    iterate 5 refine v_op hT hC rfl rfl rfl rfl trivial ?_
    refine Vc.nil ?_
    rcases sel_some h with ⟨hb4, h⟩ | ⟨hb4, h⟩
    ·
     refine s_true rfl hb4 ?_
     refine s_reg ?_
     refine v_op hT hC rfl rfl rfl rfl trivial ?_
     refine Vc.nil ?_
     refine aw_ret ?_
     refine t_ret ?_
     injection h with h
     subst h
     exact ends (Weak.refl _) rfl trivial
    ·
     refine s_false rfl hb4 ?_
     refine aw_skip ?_
     refine t_norm ?_
     refine s_in ?_
     refine s_reg ?_
     iterate 4 refine v_op hT hC rfl rfl rfl rfl trivial ?_
     obtain ⟨q1, hq, h⟩ := bnd_some h
     refine v_call hC [] rfl rfl rfl rfl Try.call133 (laws_eqIntS_ac hq) rfl (by decide) trivial rfl (.inl rfl) rfl ?_
     refine v_op hT hC rfl rfl rfl rfl trivial ?_
     refine Vc.nil ?_
     rcases sel_some h with ⟨hb5, h⟩ | ⟨hb5, h⟩
     ·
      refine s_true rfl hb5 ?_
      refine s_reg ?_
      refine v_op hT hC rfl rfl rfl rfl trivial ?_
      refine Vc.nil ?_
      refine aw_ret ?_
      refine t_ret ?_
      injection h with h
      subst h
      exact ends (Weak.refl _) rfl trivial
     ·
      refine s_false rfl hb5 ?_
      refine aw_skip ?_
      refine t_norm ?_
      refine s_reg ?_
      refine v_op hT hC rfl rfl rfl rfl trivial ?_
      refine Vc.nil ?_
      refine aw_ret ?_
      injection h with h
      subst h
      exact ends (Weak.refl _) rfl trivial
def laws_eqSquareS_res (r : Bool) : AV := .sv (.bool r)
def laws_eqSquareS_obs (r : Bool) : Objs := []
theorem laws_eqSquareS_ac {p0 : (List Square)} {p1 : (List Square)} {r : Bool} (h : laws_eqSquareS p0 p1 = some r) : AC Try.prog 40 [.sv (cSquare.sv p0), .sv (cSquare.sv p1)] [] (laws_eqSquareS_res r) (laws_eqSquareS_obs r) := by
 refine ac_of_body hT Try.func40 rfl fun C hC => ?_
 unfold laws_eqSquareS at h
 refine s_reg ?_
 refine v_op hT hC rfl rfl rfl rfl trivial ?_
 refine Vc.nil ?_
 refine s_in ?_
 refine s_reg ?_
 iterate 5 refine v_op hT hC rfl rfl rfl rfl trivial ?_
 refine Vc.nil ?_
 rcases sel_some h with ⟨hb1, h⟩ | ⟨hb1, h⟩
 ·
  refine s_true rfl hb1 ?_
  refine s_reg ?_
  refine v_op hT hC rfl rfl rfl rfl trivial ?_
  refine Vc.nil ?_
  refine aw_ret ?_
  refine t_ret ?_
  injection h with h
  subst h
  exact ends (Weak.refl _) rfl trivial
 ·
  refine s_false rfl hb1 ?_
  refine aw_skip ?_
  refine t_norm ?_
  refine s_in ?_
  refine s_reg ?_
  refine v_op hT hC rfl rfl rfl rfl trivial ?_
  refine Vc.nil ?_
  refine live [0, 1, 5] [] (s' := [_, _, _]) (o' := []) rfl rfl ?_
  obtain ⟨o8, hl, h⟩ := bnd_some h
  refine s_loopR (fun v3 => ([(5, .sv (.int .i64 v3))], [])) (fun v6 => ([(0, .any), (1, .any), (5, .any)], [])) (fun r => EndsA C T Try.f40.results.toList (laws_eqSquareS_res r) (laws_eqSquareS_obs r)) hl ?_ ?_ ?_ ?_
  ·
   apply w_conv hC []
   ·
    exact co
   ·
    rfl
   ·
    decide
   ·
    rfl
  ·
   intro v3 s hs
   have h := hs
   unfold laws_eqSquareS_l2 at h
   refine s_in ?_
   refine s_reg ?_
   iterate 4 refine v_op hT hC rfl rfl rfl rfl trivial ?_
   refine Vc.nil ?_
   rcases sel_some h with ⟨hb6, h⟩ | ⟨hb6, h⟩
   ·
    refine s_true rfl hb6 ?_
    refine aw_skip ?_
    refine t_norm ?_
    refine s_in ?_
    refine s_block ?_
    refine s_draw hm ?_
    iterate 2 refine v_op hT hC rfl rfl rfl rfl trivial ?_
    obtain ⟨hq, h⟩ := req_some h
    refine v_op hT hC rfl rfl rfl rfl hq ?_
    iterate 3 refine v_op hT hC rfl rfl rfl rfl trivial ?_
    obtain ⟨hq, h⟩ := req_some h
    refine v_op hT hC rfl rfl rfl rfl hq ?_
    refine v_op hT hC rfl rfl rfl rfl trivial ?_
    obtain ⟨q7, hq, h⟩ := bnd_some h
    refine v_call hC [] rfl rfl rfl rfl Try.call88 (laws_eqSquare_ac hq) rfl (by decide) trivial rfl (.inl rfl) rfl ?_
    refine v_op hT hC rfl rfl rfl rfl trivial ?_
    refine Vc.nil ⟨by kernel_rfl, ?_⟩
    rcases sel_some h with ⟨hb7, h⟩ | ⟨hb7, h⟩
    ·
     refine s_true rfl hb7 ?_
     refine s_reg ?_
     refine v_op hT hC rfl rfl rfl rfl trivial ?_
     refine Vc.nil ?_
     refine aw_ret ?_
     refine b_ret ?_
     refine t_ret ?_
     injection h with h
     subst h
     refine r_ret ?_
     refine o_ret ?_
     exact ends (Weak.refl _) rfl trivial
    ·
     refine s_false rfl hb7 ?_
     refine aw_skip ?_
     refine b_norm ?_
     refine t_norm ?_
     refine aw_region ?_
     iterate 3 refine v_op hT hC rfl rfl rfl rfl trivial ?_
     refine Vc.nil ?_
     injection h with h
     subst h
     refine r_go ?_
     apply w_conv hC []
     ·
      exact co
     ·
      rfl
     ·
      decide
     ·
      rfl
   ·
    refine s_false rfl hb6 ?_
    refine aw_exit ?_
    refine t_exit ?_
    injection h with h
    subst h
    refine r_exit ?_
    refine o_both ?_
    apply w_conv hC []
    ·
     exact co
    ·
     rfl
    ·
     decide
    ·
     rfl
  ·
   intro v6 e
   subst e
   refine t_norm ?_
   refine s_reg ?_
   refine v_op hT hC rfl rfl rfl rfl trivial ?_
   refine Vc.nil ?_
   refine aw_ret ?_
   injection h with h
   subst h
   exact ends (Weak.refl _) rfl trivial
  ·
   intro r' σ' e hE
   subst e
   injection h with h
   subst h
   refine t_ret ?_
   exact hE
end
end Go.Proofs.Ytjfkbpgdghijfaa.A
