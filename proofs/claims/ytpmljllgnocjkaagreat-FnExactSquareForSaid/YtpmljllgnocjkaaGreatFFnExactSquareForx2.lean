/- Contracts of the functions that the law FnExactSquareFor reaches, part 2: each comes to what its pure function tells. Written by a program of this session. Conditions: as each statement tells. -/
import Derived.Test.YtpmljllgnocjkaaGreatFFnExactSquareForx1
namespace Go.Proofs.YtpmljllgnocjkaaGreat.A
open Go Go.Proofs Go.Proofs.YtpmljllgnocjkaaGreatAL Go.RowKit
set_option linter.unusedVariables false
set_option linter.unusedSimpArgs false
set_option maxRecDepth 100000
set_option maxHeartbeats 2000000
noncomputable section
def impl_EdgesOf_res (r : (Edges × Bool)) : AV := .tup [.agg [.own 16, .own 17, .sv (.int .i64 r.1.Corner)], .sv (.bool r.2)]
def impl_EdgesOf_obs (r : (Edges × Bool)) : Objs := [(16, .ints .i64 r.1.Above), (17, .ints .i64 r.1.Left)]
theorem impl_EdgesOf_ac {p0 : Pic} {p1 : Int} {p2 : Int} {r : (Edges × Bool)} (h : impl_EdgesOf p0 p1 p2 = some r) : AC Tryz.prog 55 [.agg [.sv (.int .i64 p0.Wide), .sv (.int .i64 p0.High), .sv (.str p0.Dots)], .sv (.int .i64 p1), .sv (.int .i64 p2)] [] (impl_EdgesOf_res r) (impl_EdgesOf_obs r) := by
 refine ac_of_body hT Tryz.func55 rfl fun C hC => ?_
 unfold impl_EdgesOf at h
 refine s_reg ?_
 iterate 3 refine v_op hT hC rfl rfl rfl rfl trivial ?_
 refine Vc.nil ?_
 refine s_in ?_
 refine live [1, 2, 3, 6] [48, 96] (s' := [_, _, _, _]) (o' := [_, _]) rfl rfl ?_
 obtain ⟨v1, h1, h⟩ := bnd_some h
 refine aw_to ([(19, .sv (.bool v1))], []) ?_ ?_
 ·
  have h := h1
  refine aw_region ?_
  refine v_op hT hC rfl rfl rfl rfl trivial ?_
  obtain ⟨q2, hq, h⟩ := bnd_some h
  refine v_call hC [] rfl rfl rfl rfl Tryz.call50 (impl_PicOk_ac hq) rfl (by decide) trivial rfl (.inl rfl) rfl ?_
  iterate 2 refine v_op hT hC rfl rfl rfl rfl trivial ?_
  rcases sel_some h with ⟨hb1, h⟩ | ⟨hb1, h⟩
  ·
   iterate 3 refine v_on hT hC rfl rfl rfl rfl (congrArg Bool.not hb1) rfl rfl rfl trivial ?_
   obtain ⟨q3, hq, h⟩ := bnd_some h
   refine v_call_on hC [] rfl rfl rfl rfl (congrArg Bool.not hb1) rfl rfl rfl Tryz.call51 (impl_Pic_isSquare_ac hq) rfl (by decide) trivial rfl (.inl rfl) rfl ?_
   refine v_on hT hC rfl rfl rfl rfl (congrArg Bool.not hb1) rfl rfl rfl trivial ?_
   refine v_pick hC rfl rfl rfl (b := false) (congrArg Bool.not hb1) rfl rfl rfl trivial ?_
   refine Vc.nil ?_
   injection h with h
   subst h
   refine m_norm ?_
   apply w_conv hC []
   ·
    exact co
   ·
    rfl
   ·
    decide
   ·
    rfl
  ·
   refine v_off hC rfl rfl rfl rfl (congrArg Bool.not hb1) rfl rfl ?_
   refine v_off hC rfl rfl rfl rfl (congrArg Bool.not hb1) rfl rfl ?_
   refine v_off hC rfl rfl rfl rfl (congrArg Bool.not hb1) rfl rfl ?_
   refine v_off hC rfl rfl rfl rfl (congrArg Bool.not hb1) rfl rfl ?_
   refine v_off hC rfl rfl rfl rfl (congrArg Bool.not hb1) rfl rfl ?_
   refine v_pick hC rfl rfl rfl (b := true) (congrArg Bool.not hb1) rfl rfl rfl trivial ?_
   refine Vc.nil ?_
   injection h with h
   subst h
   refine m_norm ?_
   apply w_conv hC []
   ·
    exact co
   ·
    rfl
   ·
    decide
   ·
    rfl
 rcases sel_some h with ⟨hb2, h⟩ | ⟨hb2, h⟩
 ·
  refine s_true rfl hb2 ?_
  refine s_reg ?_
  iterate 3 refine v_op hT hC rfl rfl rfl rfl trivial ?_
  refine Vc.nil ?_
  refine aw_ret ?_
  refine t_ret ?_
  injection h with h
  subst h
  refine ends (τ := ⟨[(6, .ptr 2000000 0), (7, .sv (.bool false))], [(16, some (.ints .i64 [])), (17, some (.ints .i64 [])), (2000000, some (.box [.own 16, .own 17, .sv (.int .i64 0)]))]⟩) ?_ rfl ⟨rfl, rfl, trivial⟩
  refine w_cell hC 96 0 1105 (.ints .i64 []) rfl rfl rfl rfl rfl trivial ?_
  refine w_cell hC 96 1 1106 (.ints .i64 []) rfl rfl rfl rfl rfl trivial ?_
  apply w_conv hC [(16, 1105), (17, 1106), (2000000, 96)]
  ·
   exact co
  ·
   rfl
  ·
   decide
  ·
   rfl
 ·
  refine s_false rfl hb2 ?_
  refine aw_skip ?_
  refine t_norm ?_
  refine s_reg ?_
  iterate 3 refine v_op hT hC rfl rfl rfl rfl trivial ?_
  refine Vc.nil ?_
  refine s_in ?_
  refine s_reg ?_
  refine v_op hT hC rfl rfl rfl rfl trivial ?_
  refine Vc.nil ?_
  refine live [1, 2, 3, 6, 8, 22] [48, 96, 128] (s' := [_, _, _, _, _, _]) (o' := [_, _, _]) rfl rfl ?_
  obtain ⟨v15, hl, h⟩ := bnd_some h
  refine s_loop (fun v9 => ([(22, .sv (.int .i64 v9.1))], [(128, some (.box [.own 1129, .own 1130, .sv (.int .i64 (-1))])), (1129, some (.ints .i64 v9.2.1)), (1130, some (.ints .i64 v9.2.2))])) (fun v15 => ([(22, .any)], [(128, some (.box [.own 1133, .own 1134, .sv (.int .i64 (-1))])), (1133, some (.ints .i64 v15.1)), (1134, some (.ints .i64 v15.2))])) hl ?_ ?_ ?_
  ·
   refine w_cell hC 128 0 1135 (.ints .i64 []) rfl rfl rfl rfl rfl trivial ?_
   refine w_cell hC 128 1 1136 (.ints .i64 []) rfl rfl rfl rfl rfl trivial ?_
   try dsimp only
   apply w_conv hC [(1129, 1135), (1130, 1136)]
   ·
    exact co
   ·
    rfl
   ·
    decide
   ·
    rfl
  ·
   intro v9 s hs
   have h := hs
   unfold impl_EdgesOf_l2 at h
   refine s_reg ?_
   refine v_op hT hC rfl rfl rfl rfl trivial ?_
   refine Vc.nil ?_
   refine s_in ?_
   rcases sel_some h with ⟨hb9, h⟩ | ⟨hb9, h⟩
   ·
    refine s_true rfl hb9 ?_
    refine aw_skip ?_
    refine t_norm ?_
    refine live [1, 2, 3, 6, 8, 22] [48, 96, 128, 1129, 1130] (s' := [_, _, _, _, _, _]) (o' := [_, _, _, _, _]) rfl rfl ?_
    obtain ⟨v16, h1, h⟩ := bnd_some h
    refine aw_to ([], [(1129, some (.ints .i64 v16.1)), (1130, some (.ints .i64 v16.2))]) ?_ ?_
    ·
     have h := h1
     refine s_block ?_
     refine s_reg ?_
     iterate 2 refine v_op hT hC rfl rfl rfl rfl trivial ?_
     refine Vc.nil ?_
     refine live [1, 2, 3, 6, 8, 9, 22] [48, 96, 128, 1129, 1130] (s' := [_, _, _, _, _, _, _]) (o' := [_, _, _, _, _]) rfl rfl ?_
     obtain ⟨v17, h1, h⟩ := bnd_some h
     refine aw_to ([], [(1129, some (.ints .i64 v17))]) ?_ ?_
     ·
      have h := h1
      refine s_reg ?_
      iterate 2 refine v_op hT hC rfl rfl rfl rfl trivial ?_
      refine Vc.nil ?_
      rcases sel_some h with ⟨hb10, h⟩ | ⟨hb10, h⟩
      ·
       refine s_true rfl hb10 ?_
       refine aw_draw hm ?_
       iterate 8 refine v_op hT hC rfl rfl rfl rfl trivial ?_
       obtain ⟨q18, hq, h⟩ := bnd_some h
       refine v_call hC [] rfl rfl rfl rfl Tryz.call116 (impl_Pic_dot_ac hq) rfl (by decide) trivial rfl (.inl rfl) rfl ?_
       refine v_op hT hC rfl rfl rfl rfl trivial ?_
       obtain ⟨hq, h⟩ := req_some h
       refine v_op hT hC rfl rfl rfl rfl ⟨trivial, hq⟩ ?_
       iterate 2 refine v_op hT hC rfl rfl rfl rfl trivial ?_
       refine Vc.nil ⟨by kernel_rfl, ?_⟩
       injection h with h
       subst h
       refine m_norm ?_
       apply w_conv hC [(1129, 592)]
       ·
        exact co
       ·
        rfl
       ·
        decide
       ·
        rfl
      ·
       refine s_false rfl hb10 ?_
       refine aw_skip ?_
       injection h with h
       subst h
       refine m_norm ?_
       apply w_conv hC []
       ·
        exact co
       ·
        rfl
       ·
        decide
       ·
        rfl
     refine s_reg ?_
     iterate 2 refine v_op hT hC rfl rfl rfl rfl trivial ?_
     refine Vc.nil ?_
     rcases sel_some h with ⟨hb11, h⟩ | ⟨hb11, h⟩
     ·
      refine s_true rfl hb11 ?_
      refine aw_draw hm ?_
      iterate 8 refine v_op hT hC rfl rfl rfl rfl trivial ?_
      obtain ⟨q19, hq, h⟩ := bnd_some h
      refine v_call hC [] rfl rfl rfl rfl Tryz.call116 (impl_Pic_dot_ac hq) rfl (by decide) trivial rfl (.inl rfl) rfl ?_
      refine v_op hT hC rfl rfl rfl rfl trivial ?_
      obtain ⟨hq, h⟩ := req_some h
      refine v_op hT hC rfl rfl rfl rfl ⟨trivial, hq⟩ ?_
      iterate 2 refine v_op hT hC rfl rfl rfl rfl trivial ?_
      refine Vc.nil ⟨by kernel_rfl, ?_⟩
      refine b_norm ?_
      injection h with h
      subst h
      refine m_norm ?_
      try dsimp only
      apply w_conv hC [(1130, 816)]
      ·
       exact co
      ·
       rfl
      ·
       decide
      ·
       rfl
     ·
      refine s_false rfl hb11 ?_
      refine aw_skip ?_
      refine b_norm ?_
      injection h with h
      subst h
      refine m_norm ?_
      try dsimp only
      apply w_conv hC []
      ·
       exact co
      ·
       rfl
      ·
       decide
      ·
       rfl
    refine aw_region ?_
    iterate 2 refine v_op hT hC rfl rfl rfl rfl trivial ?_
    refine Vc.nil ?_
    injection h with h
    subst h
    refine r_go ?_
    try dsimp only
    apply w_conv hC []
    ·
     exact co
    ·
     rfl
    ·
     decide
    ·
     rfl
   ·
    refine s_false rfl hb9 ?_
    refine aw_exit ?_
    refine t_exit ?_
    injection h with h
    subst h
    refine r_exit ?_
    refine o_out ?_
    try dsimp only
    apply w_conv hC [(1133, 1129), (1134, 1130)]
    ·
     exact co
    ·
     rfl
    ·
     decide
    ·
     rfl
  refine t_norm ?_
  refine live [1, 2, 3, 6, 8] [48, 96, 128, 1133, 1134] (s' := [_, _, _, _, _]) (o' := [_, _, _, _, _]) rfl rfl ?_
  obtain ⟨v21, h1, h⟩ := bnd_some h
  refine aw_to ([(1, .any), (2, .any), (3, .any)], [(128, some (.box [.own 1133, .own 1134, .sv (.int .i64 v21)])), (48, none)]) ?_ ?_
  ·
   have h := h1
   refine live [1, 2, 3, 6, 8] [48, 96, 128, 1133, 1134] (s' := [_, _, _, _, _]) (o' := [_, _, _, _, _]) rfl rfl ?_
   obtain ⟨v22, h1, h⟩ := bnd_some h
   refine aw_to ([(59, .sv (.bool v22))], []) ?_ ?_
   ·
    have h := h1
    refine aw_region ?_
    iterate 3 refine v_op hT hC rfl rfl rfl rfl trivial ?_
    rcases sel_some h with ⟨hb12, h⟩ | ⟨hb12, h⟩
    ·
     iterate 2 refine v_on hT hC rfl rfl rfl rfl hb12 rfl rfl rfl trivial ?_
     refine v_pick hC rfl rfl rfl (b := true) hb12 rfl rfl rfl trivial ?_
     refine Vc.nil ?_
     injection h with h
     subst h
     refine m_norm ?_
     apply w_conv hC []
     ·
      exact co
     ·
      rfl
     ·
      decide
     ·
      rfl
    ·
     refine v_off hC rfl rfl rfl rfl hb12 rfl rfl ?_
     refine v_off hC rfl rfl rfl rfl hb12 rfl rfl ?_
     refine v_pick hC rfl rfl rfl (b := false) hb12 rfl rfl rfl trivial ?_
     refine Vc.nil ?_
     injection h with h
     subst h
     refine m_norm ?_
     apply w_conv hC []
     ·
      exact co
     ·
      rfl
     ·
      decide
     ·
      rfl
   rcases sel_some h with ⟨hb13, h⟩ | ⟨hb13, h⟩
   ·
    refine s_true rfl hb13 ?_
    refine aw_region ?_
    iterate 5 refine v_op hT hC rfl rfl rfl rfl trivial ?_
    obtain ⟨q23, hq, h⟩ := bnd_some h
    refine v_call hC [] rfl rfl rfl rfl Tryz.call116 (impl_Pic_dot_ac hq) rfl (by decide) trivial rfl (.inl rfl) rfl ?_
    iterate 2 refine v_op hT hC rfl rfl rfl rfl trivial ?_
    refine Vc.nil ?_
    injection h with h
    subst h
    refine m_norm ?_
    apply w_conv hC []
    ·
     exact co
    ·
     rfl
    ·
     decide
    ·
     rfl
   ·
    refine s_false rfl hb13 ?_
    refine aw_skip ?_
    injection h with h
    subst h
    refine m_norm ?_
    apply w_conv hC []
    ·
     exact co
    ·
     rfl
    ·
     decide
    ·
     rfl
  refine s_reg ?_
  iterate 3 refine v_op hT hC rfl rfl rfl rfl trivial ?_
  refine Vc.nil ?_
  refine aw_ret ?_
  injection h with h
  subst h
  refine ends (τ := ⟨[(6, .ptr 2000000 0), (7, .sv (.bool true))], [(16, some (.ints .i64 v15.1)), (17, some (.ints .i64 v15.2)), (2000000, some (.box [.own 16, .own 17, .sv (.int .i64 v21)]))]⟩) ?_ rfl ⟨rfl, rfl, trivial⟩
  apply w_conv hC [(16, 1133), (17, 1134), (2000000, 96)]
  ·
   exact co
  ·
   rfl
  ·
   decide
  ·
   rfl
def impl_EdgesOk_res (r : Bool) : AV := .sv (.bool r)
def impl_EdgesOk_obs (r : Bool) : Objs := []
theorem impl_EdgesOk_ac {p0 : Edges} {r : Bool} (h : impl_EdgesOk p0 = some r) : AC Tryz.prog 117 [.agg [.sv (.ints .i64 p0.Above), .sv (.ints .i64 p0.Left), .sv (.int .i64 p0.Corner)]] [] (impl_EdgesOk_res r) (impl_EdgesOk_obs r) := by
 refine ac_of_body hT Tryz.func117 rfl fun C hC => ?_
 unfold impl_EdgesOk at h
 refine s_reg ?_
 iterate 2 refine v_op hT hC rfl rfl rfl rfl trivial ?_
 refine Vc.nil ?_
 refine s_in ?_
 refine s_reg ?_
 iterate 7 refine v_op hT hC rfl rfl rfl rfl trivial ?_
 refine Vc.nil ?_
 refine live [1, 9, 10, 11] [16, 144] (s' := [_, _, _, _]) (o' := [_, _]) rfl rfl ?_
 obtain ⟨o11, hl, h⟩ := bnd_some h
 refine s_loopR (fun v4 => ([(11, .sv (.int .i64 v4))], [])) (fun v8 => ([(9, .any), (10, .any), (11, .any)], [(144, none)])) (fun r => EndsA C T Tryz.f117.results.toList (impl_EdgesOk_res r) (impl_EdgesOk_obs r)) hl ?_ ?_ ?_ ?_
 ·
  apply w_conv hC []
  ·
   exact co
  ·
   rfl
  ·
   decide
  ·
   rfl
 ·
  intro v4 s hs
  have h := hs
  unfold impl_EdgesOk_l2 at h
  refine s_reg ?_
  refine v_op hT hC rfl rfl rfl rfl trivial ?_
  refine Vc.nil ?_
  refine s_in ?_
  rcases sel_some h with ⟨hb7, h⟩ | ⟨hb7, h⟩
  ·
   refine s_true rfl hb7 ?_
   refine aw_skip ?_
   refine t_norm ?_
   refine s_in ?_
   refine s_block ?_
   refine s_reg ?_
   obtain ⟨hq, h⟩ := req_some h
   refine v_op hT hC rfl rfl rfl rfl hq ?_
   obtain ⟨hq, h⟩ := req_some h
   refine v_op hT hC rfl rfl rfl rfl hq ?_
   refine v_op hT hC rfl rfl rfl rfl trivial ?_
   refine Vc.nil ?_
   refine live [1, 4, 9, 10, 11] [16, 144] (s' := [_, _, _, _, _]) (o' := [_, _]) rfl rfl ?_
   obtain ⟨v9, h1, h⟩ := bnd_some h
   refine aw_to ([(22, .sv (.bool v9)), (4, .any)], []) ?_ ?_
   ·
    have h := h1
    refine aw_region ?_
    iterate 4 refine v_op hT hC rfl rfl rfl rfl trivial ?_
    rcases sel_some h with ⟨hb8, h⟩ | ⟨hb8, h⟩
    ·
     refine v_on hT hC rfl rfl rfl rfl hb8 rfl rfl rfl trivial ?_
     obtain ⟨q10, hq, h⟩ := bnd_some h
     refine v_call_on hC [] rfl rfl rfl rfl hb8 rfl rfl rfl Tryz.call52 (impl_areIn_ac hq) rfl (by decide) trivial rfl (.inl rfl) rfl ?_
     refine v_on hT hC rfl rfl rfl rfl hb8 rfl rfl rfl trivial ?_
     refine v_pick hC rfl rfl rfl (b := true) hb8 rfl rfl rfl trivial ?_
     refine Vc.nil ?_
     injection h with h
     subst h
     refine m_norm ?_
     apply w_conv hC []
     ·
      exact co
     ·
      rfl
     ·
      decide
     ·
      rfl
    ·
     refine v_off hC rfl rfl rfl rfl hb8 rfl rfl ?_
     refine v_off hC rfl rfl rfl rfl hb8 rfl rfl ?_
     refine v_off hC rfl rfl rfl rfl hb8 rfl rfl ?_
     refine v_pick hC rfl rfl rfl (b := false) hb8 rfl rfl rfl trivial ?_
     refine Vc.nil ?_
     injection h with h
     subst h
     refine m_norm ?_
     apply w_conv hC []
     ·
      exact co
     ·
      rfl
     ·
      decide
     ·
      rfl
   rcases sel_some h with ⟨hb9, h⟩ | ⟨hb9, h⟩
   ·
    refine s_true rfl hb9 ?_
    refine s_reg ?_
    refine v_op hT hC rfl rfl rfl rfl trivial ?_
    refine Vc.nil ?_
    refine aw_ret ?_
    refine b_ret ?_
    refine t_ret ?_
    injection h with h
    subst h
    refine r_ret ?_
    refine o_ret ?_
    exact ends (Weak.refl _) rfl trivial
   ·
    refine s_false rfl hb9 ?_
    refine aw_skip ?_
    refine b_norm ?_
    refine t_norm ?_
    refine aw_region ?_
    iterate 2 refine v_op hT hC rfl rfl rfl rfl trivial ?_
    refine Vc.nil ?_
    injection h with h
    subst h
    refine r_go ?_
    apply w_conv hC []
    ·
     exact co
    ·
     rfl
    ·
     decide
    ·
     rfl
  ·
   refine s_false rfl hb7 ?_
   refine aw_exit ?_
   refine t_exit ?_
   injection h with h
   subst h
   refine r_exit ?_
   refine o_both ?_
   apply w_conv hC []
   ·
    exact co
   ·
    rfl
   ·
    decide
   ·
    rfl
 ·
  intro v8 e
  subst e
  refine t_norm ?_
  refine s_reg ?_
  iterate 2 refine v_op hT hC rfl rfl rfl rfl trivial ?_
  obtain ⟨q12, hq, h⟩ := bnd_some h
  refine v_call hC [] rfl rfl rfl rfl Tryz.call54 (impl_within_ac hq) rfl (by decide) trivial rfl (.inl rfl) rfl ?_
  refine v_op hT hC rfl rfl rfl rfl trivial ?_
  refine Vc.nil ?_
  refine aw_ret ?_
  injection h with h
  subst h
  exact ends (Weak.refl _) rfl trivial
 ·
  intro r' σ' e hE
  subst e
  injection h with h
  subst h
  refine t_ret ?_
  exact hE
def impl_sumOf_res (r : Int) : AV := .sv (.int .i64 r)
def impl_sumOf_obs (r : Int) : Objs := []
theorem impl_sumOf_ac {p0 : (List Int)} {r : Int} (h : impl_sumOf p0 = some r) : AC Tryz.prog 125 [.sv (.ints .i64 p0)] [] (impl_sumOf_res r) (impl_sumOf_obs r) := by
 refine ac_of_body hT Tryz.func125 rfl fun C hC => ?_
 unfold impl_sumOf at h
 refine s_reg ?_
 refine v_op hT hC rfl rfl rfl rfl trivial ?_
 refine Vc.nil ?_
 refine s_reg ?_
 refine v_op hT hC rfl rfl rfl rfl trivial ?_
 refine Vc.nil ?_
 refine s_in ?_
 refine s_reg ?_
 iterate 3 refine v_op hT hC rfl rfl rfl rfl trivial ?_
 refine Vc.nil ?_
 refine live [3, 6, 7, 8] [] (s' := [_, _, _, _]) (o' := []) rfl rfl ?_
 obtain ⟨v4, hl, h⟩ := bnd_some h
 refine s_loop (fun v2 => ([(3, .sv (.int .i64 v2.1)), (8, .sv (.int .i64 v2.2))], [])) (fun v4 => ([(3, .sv (.int .i64 v4)), (6, .any), (7, .any), (8, .any)], [])) hl ?_ ?_ ?_
 ·
  try dsimp only
  apply w_conv hC []
  ·
   exact co
  ·
   rfl
  ·
   decide
  ·
   rfl
 ·
  intro v2 s hs
  have h := hs
  unfold impl_sumOf_l2 at h
  refine s_reg ?_
  refine v_op hT hC rfl rfl rfl rfl trivial ?_
  refine Vc.nil ?_
  refine s_in ?_
  rcases sel_some h with ⟨hb3, h⟩ | ⟨hb3, h⟩
  ·
   refine s_true rfl hb3 ?_
   refine aw_skip ?_
   refine t_norm ?_
   refine s_in ?_
   refine s_block ?_
   refine s_reg ?_
   obtain ⟨hq, h⟩ := req_some h
   refine v_op hT hC rfl rfl rfl rfl hq ?_
   iterate 2 refine v_op hT hC rfl rfl rfl rfl trivial ?_
   refine Vc.nil ?_
   refine aw_region ?_
   iterate 4 refine v_op hT hC rfl rfl rfl rfl trivial ?_
   refine Vc.nil ?_
   refine b_norm ?_
   refine t_norm ?_
   refine aw_region ?_
   iterate 2 refine v_op hT hC rfl rfl rfl rfl trivial ?_
   refine Vc.nil ?_
   injection h with h
   subst h
   refine r_go ?_
   try dsimp only
   apply w_conv hC []
   ·
    exact co
   ·
    rfl
   ·
    decide
   ·
    rfl
  ·
   refine s_false rfl hb3 ?_
   refine aw_exit ?_
   refine t_exit ?_
   injection h with h
   subst h
   refine r_exit ?_
   refine o_out ?_
   apply w_conv hC []
   ·
    exact co
   ·
    rfl
   ·
    decide
   ·
    rfl
 refine t_norm ?_
 refine s_reg ?_
 iterate 2 refine v_op hT hC rfl rfl rfl rfl trivial ?_
 refine Vc.nil ?_
 refine aw_ret ?_
 injection h with h
 subst h
 exact ends (Weak.refl _) rfl trivial
def impl_orGrey_res (r : (List Int)) : AV := .sv (.ints .i64 r)
def impl_orGrey_obs (r : (List Int)) : Objs := []
theorem impl_orGrey_ac {p0 : (List Int)} {r : (List Int)} (h : impl_orGrey p0 = some r) : AC Tryz.prog 126 [.sv (.ints .i64 p0)] [] (impl_orGrey_res r) (impl_orGrey_obs r) := by
 refine ac_of_body hT Tryz.func126 rfl fun C hC => ?_
 unfold impl_orGrey at h
 refine s_reg ?_
 refine v_op hT hC rfl rfl rfl rfl trivial ?_
 refine Vc.nil ?_
 refine s_in ?_
 refine s_reg ?_
 iterate 3 refine v_op hT hC rfl rfl rfl rfl trivial ?_
 refine Vc.nil ?_
 rcases sel_some h with ⟨hb1, h⟩ | ⟨hb1, h⟩
 ·
  refine s_true rfl hb1 ?_
  refine s_reg ?_
  iterate 2 refine v_op hT hC rfl rfl rfl rfl trivial ?_
  refine Vc.nil ?_
  refine aw_ret ?_
  refine t_ret ?_
  injection h with h
  subst h
  refine ends (τ := ⟨[(2, .sv (.ints .i64 ([128, 128, 128, 128, 128, 128, 128, 128])))], []⟩) ?_ rfl trivial
  apply w_conv hC []
  ·
   exact co
  ·
   rfl
  ·
   decide
  ·
   rfl
 ·
  refine s_false rfl hb1 ?_
  refine aw_skip ?_
  refine t_norm ?_
  refine s_reg ?_
  iterate 2 refine v_op hT hC rfl rfl rfl rfl trivial ?_
  refine Vc.nil ?_
  refine aw_ret ?_
  injection h with h
  subst h
  exact ends (Weak.refl _) rfl trivial
def impl_GuessOf_res (r : (List Int)) : AV := .own 16
def impl_GuessOf_obs (r : (List Int)) : Objs := [(16, .ints .i64 r)]
theorem impl_GuessOf_ac {p0 : Int} {p1 : Edges} {r : (List Int)} (h : impl_GuessOf p0 p1 = some r) : AC Tryz.prog 59 [.sv (.int .i64 p0), .agg [.sv (.ints .i64 p1.Above), .sv (.ints .i64 p1.Left), .sv (.int .i64 p1.Corner)]] [] (impl_GuessOf_res r) (impl_GuessOf_obs r) := by
 refine ac_of_body hT Tryz.func59 rfl fun C hC => ?_
 unfold impl_GuessOf at h
 refine s_reg ?_
 iterate 2 refine v_op hT hC rfl rfl rfl rfl trivial ?_
 refine Vc.nil ?_
 refine s_reg ?_
 iterate 2 refine v_op hT hC rfl rfl rfl rfl trivial ?_
 refine Vc.nil ?_
 refine s_in ?_
 refine live [0, 3, 5] [48, 208] (s' := [_, _, _]) (o' := [_, _]) rfl rfl ?_
 obtain ⟨v1, h1, h⟩ := bnd_some h
 refine aw_to ([(21, .sv (.bool v1))], []) ?_ ?_
 ·
  have h := h1
  refine aw_region ?_
  refine v_op hT hC rfl rfl rfl rfl trivial ?_
  obtain ⟨q2, hq, h⟩ := bnd_some h
  refine v_call hC [] rfl rfl rfl rfl Tryz.call117 (impl_EdgesOk_ac hq) rfl (by decide) trivial rfl (.inl rfl) rfl ?_
  iterate 2 refine v_op hT hC rfl rfl rfl rfl trivial ?_
  rcases sel_some h with ⟨hb1, h⟩ | ⟨hb1, h⟩
  ·
   refine v_on hT hC rfl rfl rfl rfl (congrArg Bool.not hb1) rfl rfl rfl trivial ?_
   obtain ⟨q3, hq, h⟩ := bnd_some h
   refine v_call_on hC [] rfl rfl rfl rfl (congrArg Bool.not hb1) rfl rfl rfl Tryz.call54 (impl_within_ac hq) rfl (by decide) trivial rfl (.inl rfl) rfl ?_
   refine v_on hT hC rfl rfl rfl rfl (congrArg Bool.not hb1) rfl rfl rfl trivial ?_
   refine v_pick hC rfl rfl rfl (b := false) (congrArg Bool.not hb1) rfl rfl rfl trivial ?_
   refine Vc.nil ?_
   injection h with h
   subst h
   refine m_norm ?_
   apply w_conv hC []
   ·
    exact co
   ·
    rfl
   ·
    decide
   ·
    rfl
  ·
   refine v_off hC rfl rfl rfl rfl (congrArg Bool.not hb1) rfl rfl ?_
   refine v_off hC rfl rfl rfl rfl (congrArg Bool.not hb1) rfl rfl ?_
   refine v_off hC rfl rfl rfl rfl (congrArg Bool.not hb1) rfl rfl ?_
   refine v_pick hC rfl rfl rfl (b := true) (congrArg Bool.not hb1) rfl rfl rfl trivial ?_
   refine Vc.nil ?_
   injection h with h
   subst h
   refine m_norm ?_
   apply w_conv hC []
   ·
    exact co
   ·
    rfl
   ·
    decide
   ·
    rfl
 rcases sel_some h with ⟨hb2, h⟩ | ⟨hb2, h⟩
 ·
  refine s_true rfl hb2 ?_
  refine s_reg ?_
  iterate 2 refine v_op hT hC rfl rfl rfl rfl trivial ?_
  refine Vc.nil ?_
  refine aw_ret ?_
  refine t_ret ?_
  injection h with h
  subst h
  refine ends (τ := ⟨[(4, .own 16)], [(16, some (.ints .i64 ([] : List Int)))]⟩) ?_ rfl ⟨rfl, trivial⟩
  apply w_conv hC [(16, 208)]
  ·
   exact co
  ·
   rfl
  ·
   decide
  ·
   rfl
 ·
  refine s_false rfl hb2 ?_
  refine aw_skip ?_
  refine t_norm ?_
  refine s_reg ?_
  refine v_op hT hC rfl rfl rfl rfl trivial ?_
  refine Vc.nil ?_
  refine live [0, 3, 5, 6] [48, 208] (s' := [_, _, _, _]) (o' := [_, _]) rfl rfl ?_
  obtain ⟨v4, h1, h⟩ := bnd_some h
  refine aw_to ([(6, .sv (.int .i64 v4))], []) ?_ ?_
  ·
   have h := h1
   refine s_reg ?_
   iterate 8 refine v_op hT hC rfl rfl rfl rfl trivial ?_
   refine Vc.nil ?_
   refine s_reg ?_
   iterate 2 refine v_op hT hC rfl rfl rfl rfl trivial ?_
   refine Vc.nil ?_
   rcases sel_some h with ⟨hb3, h⟩ | ⟨hb3, h⟩
   ·
    refine s_true rfl hb3 ?_
    refine aw_draw hm ?_
    iterate 2 refine v_op hT hC rfl rfl rfl rfl trivial ?_
    obtain ⟨q5, hq, h⟩ := bnd_some h
    refine v_call hC [] rfl rfl rfl rfl Tryz.call125 (impl_sumOf_ac hq) rfl (by decide) trivial rfl (.inl rfl) rfl ?_
    iterate 2 refine v_op hT hC rfl rfl rfl rfl trivial ?_
    obtain ⟨q6, hq, h⟩ := bnd_some h
    refine v_call hC [] rfl rfl rfl rfl Tryz.call125 (impl_sumOf_ac hq) rfl (by decide) trivial rfl (.inl rfl) rfl ?_
    iterate 2 refine v_op hT hC rfl rfl rfl rfl trivial ?_
    obtain ⟨hq, h⟩ := req_some h
    refine v_op hT hC rfl rfl rfl rfl hq ?_
    iterate 2 refine v_op hT hC rfl rfl rfl rfl trivial ?_
    obtain ⟨hq, h⟩ := req_some h
    refine v_op hT hC rfl rfl rfl rfl hq ?_
    refine v_op hT hC rfl rfl rfl rfl trivial ?_
    refine Vc.nil ⟨by kernel_rfl, ?_⟩
    injection h with h
    subst h
    refine m_norm ?_
    apply w_conv hC []
    ·
     exact co
    ·
     rfl
    ·
     decide
    ·
     rfl
   ·
    refine s_false rfl hb3 ?_
    refine aw_skip ?_
    injection h with h
    subst h
    refine m_norm ?_
    apply w_conv hC []
    ·
     exact co
    ·
     rfl
    ·
     decide
    ·
     rfl
  refine s_draw hm ?_
  iterate 2 refine v_op hT hC rfl rfl rfl rfl trivial ?_
  obtain ⟨q7, hq, h⟩ := bnd_some h
  refine v_call hC [] rfl rfl rfl rfl Tryz.call126 (impl_orGrey_ac hq) rfl (by decide) trivial rfl (.inl rfl) rfl ?_
  iterate 2 refine v_op hT hC rfl rfl rfl rfl trivial ?_
  obtain ⟨q8, hq, h⟩ := bnd_some h
  refine v_call hC [] rfl rfl rfl rfl Tryz.call126 (impl_orGrey_ac hq) rfl (by decide) trivial rfl (.inl rfl) rfl ?_
  iterate 5 refine v_op hT hC rfl rfl rfl rfl trivial ?_
  refine Vc.nil ⟨by kernel_rfl, ?_⟩
  refine live [0, 5, 6, 8, 9, 10] [208] (s' := [_, _, _, _, _, _]) (o' := [_]) rfl rfl ?_
  obtain ⟨v9, h1, h⟩ := bnd_some h
  refine aw_to ([(10, .sv (.int .i64 v9))], []) ?_ ?_
  ·
   have h := h1
   refine s_reg ?_
   iterate 2 refine v_op hT hC rfl rfl rfl rfl trivial ?_
   refine Vc.nil ?_
   rcases sel_some h with ⟨hb4, h⟩ | ⟨hb4, h⟩
   ·
    refine s_true rfl hb4 ?_
    refine aw_region ?_
    refine v_op hT hC rfl rfl rfl rfl trivial ?_
    refine Vc.nil ?_
    injection h with h
    subst h
    refine m_norm ?_
    apply w_conv hC []
    ·
     exact co
    ·
     rfl
    ·
     decide
    ·
     rfl
   ·
    refine s_false rfl hb4 ?_
    refine aw_skip ?_
    injection h with h
    subst h
    refine m_norm ?_
    apply w_conv hC []
    ·
     exact co
    ·
     rfl
    ·
     decide
    ·
     rfl
  refine s_in ?_
  refine s_reg ?_
  refine v_op hT hC rfl rfl rfl rfl trivial ?_
  refine Vc.nil ?_
  refine live [0, 5, 6, 8, 9, 10, 54] [208] (s' := [_, _, _, _, _, _, _]) (o' := [_]) rfl rfl ?_
  obtain ⟨v35, hl, h⟩ := bnd_some h
  refine s_loop (fun v22 => ([(54, .sv (.int .i64 v22.1))], [(208, some (.ints .i64 v22.2))])) (fun v35 => ([(0, .any), (6, .any), (8, .any), (9, .any), (10, .any), (54, .any)], [(208, some (.ints .i64 v35))])) hl ?_ ?_ ?_
  ·
   try dsimp only
   apply w_conv hC []
   ·
    exact co
   ·
    rfl
   ·
    decide
   ·
    rfl
  ·
   intro v22 s hs
   have h := hs
   unfold impl_GuessOf_l12 at h
   refine s_reg ?_
   refine v_op hT hC rfl rfl rfl rfl trivial ?_
   refine Vc.nil ?_
   refine s_in ?_
   rcases sel_some h with ⟨hb31, h⟩ | ⟨hb31, h⟩
   ·
    refine s_true rfl hb31 ?_
    refine aw_skip ?_
    refine t_norm ?_
    refine s_in ?_
    refine s_block ?_
    refine s_reg ?_
    iterate 2 refine v_op hT hC rfl rfl rfl rfl trivial ?_
    refine Vc.nil ?_
    refine s_reg ?_
    refine v_op hT hC rfl rfl rfl rfl trivial ?_
    refine Vc.nil ?_
    refine live [0, 5, 6, 8, 9, 10, 11, 54, 57] [208] (s' := [_, _, _, _, _, _, _, _, _]) (o' := [_]) rfl rfl ?_
    obtain ⟨v43, hl, h⟩ := bnd_some h
    refine s_loop (fun v39 => ([(57, .sv (.int .i64 v39.1))], [(208, some (.ints .i64 v39.2))])) (fun v43 => ([(11, .any), (57, .any)], [(208, some (.ints .i64 v43))])) hl ?_ ?_ ?_
    ·
     try dsimp only
     apply w_conv hC []
     ·
      exact co
     ·
      rfl
     ·
      decide
     ·
      rfl
    ·
     intro v39 s hs
     have h := hs
     unfold impl_GuessOf_l14 at h
     refine s_reg ?_
     refine v_op hT hC rfl rfl rfl rfl trivial ?_
     refine Vc.nil ?_
     refine s_in ?_
     rcases sel_some h with ⟨hb40, h⟩ | ⟨hb40, h⟩
     ·
      refine s_true rfl hb40 ?_
      refine aw_skip ?_
      refine t_norm ?_
      refine live [0, 5, 6, 8, 9, 10, 11, 54, 57] [208] (s' := [_, _, _, _, _, _, _, _, _]) (o' := [_]) rfl rfl ?_
      obtain ⟨v44, h1, h⟩ := bnd_some h
      refine aw_to ([(5, .own 1700)], [(1700, some (.ints .i64 v44)), (208, none)]) ?_ ?_
      ·
       have h := h1
       refine s_block ?_
       refine s_reg ?_
       iterate 2 refine v_op hT hC rfl rfl rfl rfl trivial ?_
       refine Vc.nil ?_
       refine s_reg ?_
       refine v_op hT hC rfl rfl rfl rfl trivial ?_
       refine Vc.nil ?_
       refine s_block ?_
       refine s_reg ?_
       iterate 2 refine v_op hT hC rfl rfl rfl rfl trivial ?_
       refine Vc.nil ?_
       rcases sel_some h with ⟨hb41, h⟩ | ⟨hb41, h⟩
       ·
        refine s_true rfl hb41 ?_
        refine aw_region ?_
        iterate 3 refine v_op hT hC rfl rfl rfl rfl trivial ?_
        obtain ⟨hq, h⟩ := req_some h
        refine v_op hT hC rfl rfl rfl rfl ⟨trivial, hq⟩ ?_
        refine v_op hT hC rfl rfl rfl rfl trivial ?_
        refine Vc.nil ?_
        refine b_norm ?_
        refine b_norm ?_
        injection h with h
        subst h
        refine m_norm ?_
        apply w_conv hC [(1700, 1296)]
        ·
         exact co
        ·
         rfl
        ·
         decide
        ·
         rfl
       ·
        refine s_false rfl hb41 ?_
        refine s_reg ?_
        iterate 2 refine v_op hT hC rfl rfl rfl rfl trivial ?_
        refine Vc.nil ?_
        rcases sel_some h with ⟨hb42, h⟩ | ⟨hb42, h⟩
        ·
         refine s_true rfl hb42 ?_
         refine aw_region ?_
         iterate 3 refine v_op hT hC rfl rfl rfl rfl trivial ?_
         obtain ⟨hq, h⟩ := req_some h
         refine v_op hT hC rfl rfl rfl rfl hq ?_
         iterate 2 refine v_op hT hC rfl rfl rfl rfl trivial ?_
         obtain ⟨hq, h⟩ := req_some h
         refine v_op hT hC rfl rfl rfl rfl ⟨trivial, hq⟩ ?_
         refine v_op hT hC rfl rfl rfl rfl trivial ?_
         refine Vc.nil ?_
         refine b_norm ?_
         refine b_norm ?_
         injection h with h
         subst h
         refine m_norm ?_
         apply w_conv hC [(1700, 1440)]
         ·
          exact co
         ·
          rfl
         ·
          decide
         ·
          rfl
        ·
         refine s_false rfl hb42 ?_
         refine s_reg ?_
         iterate 2 refine v_op hT hC rfl rfl rfl rfl trivial ?_
         refine Vc.nil ?_
         rcases sel_some h with ⟨hb43, h⟩ | ⟨hb43, h⟩
         ·
          refine s_true rfl hb43 ?_
          refine aw_region ?_
          iterate 3 refine v_op hT hC rfl rfl rfl rfl trivial ?_
          obtain ⟨hq, h⟩ := req_some h
          refine v_op hT hC rfl rfl rfl rfl hq ?_
          iterate 2 refine v_op hT hC rfl rfl rfl rfl trivial ?_
          obtain ⟨hq, h⟩ := req_some h
          refine v_op hT hC rfl rfl rfl rfl ⟨trivial, hq⟩ ?_
          refine v_op hT hC rfl rfl rfl rfl trivial ?_
          refine Vc.nil ?_
          refine b_norm ?_
          refine b_norm ?_
          injection h with h
          subst h
          refine m_norm ?_
          apply w_conv hC [(1700, 1584)]
          ·
           exact co
          ·
           rfl
          ·
           decide
          ·
           rfl
         ·
          refine s_false rfl hb43 ?_
          refine aw_draw hm ?_
          iterate 3 refine v_op hT hC rfl rfl rfl rfl trivial ?_
          obtain ⟨hq, h⟩ := req_some h
          refine v_op hT hC rfl rfl rfl rfl hq ?_
          iterate 3 refine v_op hT hC rfl rfl rfl rfl trivial ?_
          obtain ⟨hq, h⟩ := req_some h
          refine v_op hT hC rfl rfl rfl rfl hq ?_
          iterate 4 refine v_op hT hC rfl rfl rfl rfl trivial ?_
          obtain ⟨q45, hq, h⟩ := bnd_some h
          refine v_call hC [] rfl rfl rfl rfl Tryz.call127 (impl_Brought_ac hq) rfl (by decide) trivial rfl (.inl rfl) rfl ?_
          refine v_op hT hC rfl rfl rfl rfl trivial ?_
          obtain ⟨hq, h⟩ := req_some h
          refine v_op hT hC rfl rfl rfl rfl ⟨trivial, hq⟩ ?_
          refine v_op hT hC rfl rfl rfl rfl trivial ?_
          refine Vc.nil ⟨by kernel_rfl, ?_⟩
          refine b_norm ?_
          refine b_norm ?_
          injection h with h
          subst h
          refine m_norm ?_
          apply w_conv hC [(1700, 1200)]
          ·
           exact co
          ·
           rfl
          ·
           decide
          ·
           rfl
      refine aw_region ?_
      iterate 2 refine v_op hT hC rfl rfl rfl rfl trivial ?_
      refine Vc.nil ?_
      injection h with h
      subst h
      refine r_go ?_
      try dsimp only
      apply w_conv hC [(208, 1700)]
      ·
       exact co
      ·
       rfl
      ·
       decide
      ·
       rfl
     ·
      refine s_false rfl hb40 ?_
      refine aw_exit ?_
      refine t_exit ?_
      injection h with h
      subst h
      refine r_exit ?_
      refine o_out ?_
      apply w_conv hC []
      ·
       exact co
      ·
       rfl
      ·
       decide
      ·
       rfl
    refine b_norm ?_
    refine t_norm ?_
    refine aw_region ?_
    iterate 2 refine v_op hT hC rfl rfl rfl rfl trivial ?_
    refine Vc.nil ?_
    injection h with h
    subst h
    refine r_go ?_
    try dsimp only
    apply w_conv hC []
    ·
     exact co
    ·
     rfl
    ·
     decide
    ·
     rfl
   ·
    refine s_false rfl hb31 ?_
    refine aw_exit ?_
    refine t_exit ?_
    injection h with h
    subst h
    refine r_exit ?_
    refine o_out ?_
    apply w_conv hC []
    ·
     exact co
    ·
     rfl
    ·
     decide
    ·
     rfl
  refine t_norm ?_
  refine s_reg ?_
  iterate 2 refine v_op hT hC rfl rfl rfl rfl trivial ?_
  refine Vc.nil ?_
  refine aw_ret ?_
  injection h with h
  subst h
  refine ends (τ := ⟨[(4, .own 16)], [(16, some (.ints .i64 v35))]⟩) ?_ rfl ⟨rfl, trivial⟩
  apply w_conv hC [(16, 208)]
  ·
   exact co
  ·
   rfl
  ·
   decide
  ·
   rfl
def impl_size_res (r : Int) : AV := .sv (.int .i64 r)
def impl_size_obs (r : Int) : Objs := []
theorem impl_size_ac {p0 : Int} {r : Int} (h : impl_size p0 = some r) : AC Tryz.prog 128 [.sv (.int .i64 p0)] [] (impl_size_res r) (impl_size_obs r) := by
 refine ac_of_body hT Tryz.func128 rfl fun C hC => ?_
 unfold impl_size at h
 refine s_reg ?_
 refine v_op hT hC rfl rfl rfl rfl trivial ?_
 refine Vc.nil ?_
 refine s_reg ?_
 iterate 5 refine v_op hT hC rfl rfl rfl rfl trivial ?_
 refine Vc.nil ?_
 refine aw_ret ?_
 injection h with h
 subst h
 exact ends (Weak.refl _) rfl trivial
def impl_gap_res (r : Int) : AV := .sv (.int .i64 r)
def impl_gap_obs (r : Int) : Objs := []
theorem impl_gap_ac {p0 : (List Int)} {p1 : (List Int)} {r : Int} (h : impl_gap p0 p1 = some r) : AC Tryz.prog 60 [.sv (.ints .i64 p0), .sv (.ints .i64 p1)] [] (impl_gap_res r) (impl_gap_obs r) := by
 refine ac_of_body hT Tryz.func60 rfl fun C hC => ?_
 unfold impl_gap at h
 refine s_reg ?_
 refine v_op hT hC rfl rfl rfl rfl trivial ?_
 refine Vc.nil ?_
 refine s_reg ?_
 refine v_op hT hC rfl rfl rfl rfl trivial ?_
 refine Vc.nil ?_
 refine s_in ?_
 refine s_reg ?_
 iterate 3 refine v_op hT hC rfl rfl rfl rfl trivial ?_
 refine Vc.nil ?_
 refine live [1, 5, 8, 9, 10] [] (s' := [_, _, _, _, _]) (o' := []) rfl rfl ?_
 obtain ⟨v6, hl, h⟩ := bnd_some h
 refine s_loop (fun v3 => ([(5, .sv (.int .i64 v3.1)), (10, .sv (.int .i64 v3.2))], [])) (fun v6 => ([(5, .sv (.int .i64 v6)), (1, .any), (8, .any), (9, .any), (10, .any)], [])) hl ?_ ?_ ?_
 ·
  try dsimp only
  apply w_conv hC []
  ·
   exact co
  ·
   rfl
  ·
   decide
  ·
   rfl
 ·
  intro v3 s hs
  have h := hs
  unfold impl_gap_l2 at h
  refine s_reg ?_
  refine v_op hT hC rfl rfl rfl rfl trivial ?_
  refine Vc.nil ?_
  refine s_in ?_
  rcases sel_some h with ⟨hb3, h⟩ | ⟨hb3, h⟩
  ·
   refine s_true rfl hb3 ?_
   refine aw_skip ?_
   refine t_norm ?_
   refine s_in ?_
   refine s_block ?_
   refine s_reg ?_
   refine v_op hT hC rfl rfl rfl rfl trivial ?_
   obtain ⟨hq, h⟩ := req_some h
   refine v_op hT hC rfl rfl rfl rfl hq ?_
   iterate 3 refine v_op hT hC rfl rfl rfl rfl trivial ?_
   refine Vc.nil ?_
   refine aw_region ?_
   iterate 4 refine v_op hT hC rfl rfl rfl rfl trivial ?_
   obtain ⟨hq, h⟩ := req_some h
   refine v_op hT hC rfl rfl rfl rfl hq ?_
   iterate 2 refine v_op hT hC rfl rfl rfl rfl trivial ?_
   obtain ⟨q7, hq, h⟩ := bnd_some h
   refine v_call hC [] rfl rfl rfl rfl Tryz.call128 (impl_size_ac hq) rfl (by decide) trivial rfl (.inl rfl) rfl ?_
   iterate 2 refine v_op hT hC rfl rfl rfl rfl trivial ?_
   refine Vc.nil ?_
   refine b_norm ?_
   refine t_norm ?_
   refine aw_region ?_
   iterate 2 refine v_op hT hC rfl rfl rfl rfl trivial ?_
   refine Vc.nil ?_
   injection h with h
   subst h
   refine r_go ?_
   try dsimp only
   apply w_conv hC []
   ·
    exact co
   ·
    rfl
   ·
    decide
   ·
    rfl
  ·
   refine s_false rfl hb3 ?_
   refine aw_exit ?_
   refine t_exit ?_
   injection h with h
   subst h
   refine r_exit ?_
   refine o_out ?_
   apply w_conv hC []
   ·
    exact co
   ·
    rfl
   ·
    decide
   ·
    rfl
 refine t_norm ?_
 refine s_reg ?_
 iterate 2 refine v_op hT hC rfl rfl rfl rfl trivial ?_
 refine Vc.nil ?_
 refine aw_ret ?_
 injection h with h
 subst h
 exact ends (Weak.refl _) rfl trivial
def impl_figuresOf_res (r : Int) : AV := .sv (.int .i64 r)
def impl_figuresOf_obs (r : Int) : Objs := []
theorem impl_figuresOf_ac {p0 : Int} {r : Int} (h : impl_figuresOf p0 = some r) : AC Tryz.prog 251 [.sv (.int .i64 p0)] [] (impl_figuresOf_res r) (impl_figuresOf_obs r) := by
 refine ac_of_body hT Tryz.func251 rfl fun C hC => ?_
 unfold impl_figuresOf at h
 refine s_reg ?_
 refine v_op hT hC rfl rfl rfl rfl trivial ?_
 refine Vc.nil ?_
 refine s_reg ?_
 refine v_op hT hC rfl rfl rfl rfl trivial ?_
 refine Vc.nil ?_
 refine s_in ?_
 refine live [0, 3] [] (s' := [_, _]) (o' := []) rfl rfl ?_
 obtain ⟨v4, hl, h⟩ := bnd_some h
 refine s_loop (fun v2 => ([(0, .sv (.int .i64 v2.1)), (3, .sv (.int .i64 v2.2))], [])) (fun v4 => ([(3, .sv (.int .i64 v4)), (0, .any)], [])) hl ?_ ?_ ?_
 ·
  try dsimp only
  apply w_conv hC []
  ·
   exact co
  ·
   rfl
  ·
   decide
  ·
   rfl
 ·
  intro v2 s hs
  have h := hs
  unfold impl_figuresOf_l2 at h
  refine s_in ?_
  refine s_reg ?_
  iterate 2 refine v_op hT hC rfl rfl rfl rfl trivial ?_
  refine Vc.nil ?_
  rcases sel_some h with ⟨hb3, h⟩ | ⟨hb3, h⟩
  ·
   refine s_true rfl hb3 ?_
   refine aw_skip ?_
   refine t_norm ?_
   refine s_in ?_
   refine s_block ?_
   refine aw_region ?_
   iterate 3 refine v_op hT hC rfl rfl rfl rfl trivial ?_
   refine Vc.nil ?_
   refine b_norm ?_
   refine t_norm ?_
   refine aw_region ?_
   refine v_op hT hC rfl rfl rfl rfl trivial ?_
   obtain ⟨hq, h⟩ := req_some h
   refine v_op hT hC rfl rfl rfl rfl hq ?_
   refine v_op hT hC rfl rfl rfl rfl trivial ?_
   refine Vc.nil ?_
   injection h with h
   subst h
   refine r_go ?_
   try dsimp only
   apply w_conv hC []
   ·
    exact co
   ·
    rfl
   ·
    decide
   ·
    rfl
  ·
   refine s_false rfl hb3 ?_
   refine aw_exit ?_
   refine t_exit ?_
   injection h with h
   subst h
   refine r_exit ?_
   refine o_out ?_
   apply w_conv hC []
   ·
    exact co
   ·
    rfl
   ·
    decide
   ·
    rfl
 refine t_norm ?_
 refine s_reg ?_
 iterate 2 refine v_op hT hC rfl rfl rfl rfl trivial ?_
 refine Vc.nil ?_
 refine aw_ret ?_
 injection h with h
 subst h
 exact ends (Weak.refl _) rfl trivial
def impl_signs_res (r : ByteArray) : AV := .sv (.str r)
def impl_signs_obs (r : ByteArray) : Objs := []
theorem impl_signs_ac {p0 : Int} {p1 : Int} {r : ByteArray} (h : impl_signs p0 p1 = some r) : AC Tryz.prog 250 [.sv (.int .i64 p0), .sv (.int .i64 p1)] [] (impl_signs_res r) (impl_signs_obs r) := by
 refine ac_of_body hT Tryz.func250 rfl fun C hC => ?_
 unfold impl_signs at h
 refine s_reg ?_
 refine v_op hT hC rfl rfl rfl rfl trivial ?_
 refine Vc.nil ?_
 refine s_reg ?_
 refine v_op hT hC rfl rfl rfl rfl trivial ?_
 obtain ⟨hq, h⟩ := req_some h
 refine v_op hT hC rfl rfl rfl rfl ⟨hq.1, hq.2.1, hq.2.2, by decide⟩ ?_
 refine v_op hT hC rfl rfl rfl rfl trivial ?_
 refine Vc.nil ?_
 refine s_in ?_
 refine s_reg ?_
 iterate 3 refine v_op hT hC rfl rfl rfl rfl trivial ?_
 refine Vc.nil ?_
 refine live [0, 5, 6] [128] (s' := [_, _, _]) (o' := [_]) rfl rfl ?_
 obtain ⟨v4, hl, h⟩ := bnd_some h
 refine s_loop (fun v2 => ([(0, .sv (.int .i64 v2.1)), (6, .sv (.int .i64 v2.2.1))], [(128, some (.ints .u8 v2.2.2))])) (fun v4 => ([(0, .any), (6, .any)], [(128, some (.ints .u8 v4))])) hl ?_ ?_ ?_
 ·
  try dsimp only
  apply w_conv hC []
  ·
   exact co
  ·
   rfl
  ·
   decide
  ·
   rfl
 ·
  intro v2 s hs
  have h := hs
  unfold impl_signs_l2 at h
  refine s_in ?_
  refine s_reg ?_
  iterate 2 refine v_op hT hC rfl rfl rfl rfl trivial ?_
  refine Vc.nil ?_
  rcases sel_some h with ⟨hb3, h⟩ | ⟨hb3, h⟩
  ·
   refine s_true rfl hb3 ?_
   refine aw_skip ?_
   refine t_norm ?_
   refine s_in ?_
   refine s_block ?_
   refine s_reg ?_
   iterate 6 refine v_op hT hC rfl rfl rfl rfl trivial ?_
   obtain ⟨hq, h⟩ := req_some h
   refine v_op hT hC rfl rfl rfl rfl hq ?_
   obtain ⟨hq, h⟩ := req_some h
   refine v_op hT hC rfl rfl rfl rfl hq ?_
   refine Vc.nil ?_
   refine aw_region ?_
   refine v_op hT hC rfl rfl rfl rfl trivial ?_
   obtain ⟨hq, h⟩ := req_some h
   refine v_op hT hC rfl rfl rfl rfl hq ?_
   refine v_op hT hC rfl rfl rfl rfl trivial ?_
   refine Vc.nil ?_
   refine b_norm ?_
   refine t_norm ?_
   refine aw_region ?_
   iterate 3 refine v_op hT hC rfl rfl rfl rfl trivial ?_
   refine Vc.nil ?_
   injection h with h
   subst h
   refine r_go ?_
   try dsimp only
   apply w_conv hC []
   ·
    exact co
   ·
    rfl
   ·
    decide
   ·
    rfl
  ·
   refine s_false rfl hb3 ?_
   refine aw_exit ?_
   refine t_exit ?_
   injection h with h
   subst h
   refine r_exit ?_
   refine o_out ?_
   apply w_conv hC []
   ·
    exact co
   ·
    rfl
   ·
    decide
   ·
    rfl
 refine t_norm ?_
 refine s_reg ?_
 iterate 3 refine v_op hT hC rfl rfl rfl rfl trivial ?_
 refine Vc.nil ?_
 refine aw_ret ?_
 injection h with h
 subst h
 exact ends (Weak.refl _) rfl trivial
def impl_ue_res (r : ByteArray) : AV := .sv (.str r)
def impl_ue_obs (r : ByteArray) : Objs := []
theorem impl_ue_ac {p0 : Int} {r : ByteArray} (h : impl_ue p0 = some r) : AC Tryz.prog 230 [.sv (.int .i64 p0)] [] (impl_ue_res r) (impl_ue_obs r) := by
 refine ac_of_body hT Tryz.func230 rfl fun C hC => ?_
 unfold impl_ue at h
 refine s_reg ?_
 refine v_op hT hC rfl rfl rfl rfl trivial ?_
 refine Vc.nil ?_
 refine s_reg ?_
 iterate 4 refine v_op hT hC rfl rfl rfl rfl trivial ?_
 obtain ⟨q1, hq, h⟩ := bnd_some h
 refine v_call hC [] rfl rfl rfl rfl Tryz.call251 (impl_figuresOf_ac hq) rfl (by decide) trivial rfl (.inl rfl) rfl ?_
 iterate 2 refine v_op hT hC rfl rfl rfl rfl trivial ?_
 obtain ⟨q2, hq, h⟩ := bnd_some h
 refine v_call hC [] rfl rfl rfl rfl Tryz.call250 (impl_signs_ac hq) rfl (by decide) trivial rfl (.inl rfl) rfl ?_
 refine v_op hT hC rfl rfl rfl rfl trivial ?_
 refine Vc.nil ?_
 refine aw_ret ?_
 injection h with h
 subst h
 exact ends (Weak.refl _) rfl trivial
def impl_UeRow_res (r : (ByteArray × Bool)) : AV := .tup [.sv (.str r.1), .sv (.bool r.2)]
def impl_UeRow_obs (r : (ByteArray × Bool)) : Objs := []
theorem impl_UeRow_ac {p0 : Int} {r : (ByteArray × Bool)} (h : impl_UeRow p0 = some r) : AC Tryz.prog 183 [.sv (.int .i64 p0)] [] (impl_UeRow_res r) (impl_UeRow_obs r) := by
 refine ac_of_body hT Tryz.func183 rfl fun C hC => ?_
 unfold impl_UeRow at h
 refine s_reg ?_
 iterate 2 refine v_op hT hC rfl rfl rfl rfl trivial ?_
 refine Vc.nil ?_
 refine s_in ?_
 refine s_reg ?_
 refine v_op hT hC rfl rfl rfl rfl trivial ?_
 obtain ⟨q1, hq, h⟩ := bnd_some h
 refine v_call hC [] rfl rfl rfl rfl Tryz.call54 (impl_within_ac hq) rfl (by decide) trivial rfl (.inl rfl) rfl ?_
 refine v_op hT hC rfl rfl rfl rfl trivial ?_
 refine Vc.nil ?_
 rcases sel_some h with ⟨hb1, h⟩ | ⟨hb1, h⟩
 ·
  refine s_true rfl hb1 ?_
  refine s_reg ?_
  iterate 2 refine v_op hT hC rfl rfl rfl rfl trivial ?_
  refine Vc.nil ?_
  refine aw_ret ?_
  refine t_ret ?_
  injection h with h
  subst h
  exact ends (Weak.refl _) rfl trivial
 ·
  refine s_false rfl hb1 ?_
  refine aw_skip ?_
  refine t_norm ?_
  refine s_reg ?_
  refine v_op hT hC rfl rfl rfl rfl trivial ?_
  obtain ⟨q2, hq, h⟩ := bnd_some h
  refine v_call hC [] rfl rfl rfl rfl Tryz.call230 (impl_ue_ac hq) rfl (by decide) trivial rfl (.inl rfl) rfl ?_
  iterate 2 refine v_op hT hC rfl rfl rfl rfl trivial ?_
  refine Vc.nil ?_
  refine aw_ret ?_
  injection h with h
  subst h
  exact ends (Weak.refl _) rfl trivial
def impl_UeSize_res (r : Int) : AV := .sv (.int .i64 r)
def impl_UeSize_obs (r : Int) : Objs := []
theorem impl_UeSize_ac {p0 : Int} {r : Int} (h : impl_UeSize p0 = some r) : AC Tryz.prog 118 [.sv (.int .i64 p0)] [] (impl_UeSize_res r) (impl_UeSize_obs r) := by
 refine ac_of_body hT Tryz.func118 rfl fun C hC => ?_
 unfold impl_UeSize at h
 refine s_reg ?_
 refine v_op hT hC rfl rfl rfl rfl trivial ?_
 refine Vc.nil ?_
 refine s_reg ?_
 refine v_op hT hC rfl rfl rfl rfl trivial ?_
 obtain ⟨q1, hq, h⟩ := bnd_some h
 refine v_call hC [] rfl rfl rfl rfl Tryz.call183 (impl_UeRow_ac hq) rfl (by decide) trivial rfl (.inl rfl) rfl ?_
 iterate 5 refine v_op hT hC rfl rfl rfl rfl trivial ?_
 refine Vc.nil ?_
 refine s_reg ?_
 iterate 3 refine v_op hT hC rfl rfl rfl rfl trivial ?_
 refine Vc.nil ?_
 refine aw_ret ?_
 injection h with h
 subst h
 exact ends (Weak.refl _) rfl trivial
def impl_BestGuess_res (r : (Int × Int)) : AV := .tup [.sv (.int .i64 r.1), .sv (.int .i64 r.2)]
def impl_BestGuess_obs (r : (Int × Int)) : Objs := []
theorem impl_BestGuess_ac {p0 : (List Int)} {p1 : Edges} {r : (Int × Int)} (h : impl_BestGuess p0 p1 = some r) : AC Tryz.prog 56 [.sv (.ints .i64 p0), .agg [.sv (.ints .i64 p1.Above), .sv (.ints .i64 p1.Left), .sv (.int .i64 p1.Corner)]] [] (impl_BestGuess_res r) (impl_BestGuess_obs r) := by
 refine ac_of_body hT Tryz.func56 rfl fun C hC => ?_
 unfold impl_BestGuess at h
 refine s_reg ?_
 iterate 3 refine v_op hT hC rfl rfl rfl rfl trivial ?_
 refine Vc.nil ?_
 refine s_in ?_
 refine live [0, 3] [48] (s' := [_, _]) (o' := [_]) rfl rfl ?_
 obtain ⟨v1, h1, h⟩ := bnd_some h
 refine aw_to ([(17, .sv (.bool v1))], []) ?_ ?_
 ·
  have h := h1
  refine aw_region ?_
  refine v_op hT hC rfl rfl rfl rfl trivial ?_
  obtain ⟨q2, hq, h⟩ := bnd_some h
  refine v_call hC [] rfl rfl rfl rfl Tryz.call117 (impl_EdgesOk_ac hq) rfl (by decide) trivial rfl (.inl rfl) rfl ?_
  iterate 2 refine v_op hT hC rfl rfl rfl rfl trivial ?_
  rcases sel_some h with ⟨hb1, h⟩ | ⟨hb1, h⟩
  ·
   refine v_on hT hC rfl rfl rfl rfl (congrArg Bool.not hb1) rfl rfl rfl trivial ?_
   obtain ⟨q3, hq, h⟩ := bnd_some h
   refine v_call_on hC [] rfl rfl rfl rfl (congrArg Bool.not hb1) rfl rfl rfl Tryz.call52 (impl_areIn_ac hq) rfl (by decide) trivial rfl (.inl rfl) rfl ?_
   refine v_on hT hC rfl rfl rfl rfl (congrArg Bool.not hb1) rfl rfl rfl trivial ?_
   refine v_pick hC rfl rfl rfl (b := false) (congrArg Bool.not hb1) rfl rfl rfl trivial ?_
   refine Vc.nil ?_
   injection h with h
   subst h
   refine m_norm ?_
   apply w_conv hC []
   ·
    exact co
   ·
    rfl
   ·
    decide
   ·
    rfl
  ·
   refine v_off hC rfl rfl rfl rfl (congrArg Bool.not hb1) rfl rfl ?_
   refine v_off hC rfl rfl rfl rfl (congrArg Bool.not hb1) rfl rfl ?_
   refine v_off hC rfl rfl rfl rfl (congrArg Bool.not hb1) rfl rfl ?_
   refine v_pick hC rfl rfl rfl (b := true) (congrArg Bool.not hb1) rfl rfl rfl trivial ?_
   refine Vc.nil ?_
   injection h with h
   subst h
   refine m_norm ?_
   apply w_conv hC []
   ·
    exact co
   ·
    rfl
   ·
    decide
   ·
    rfl
 rcases sel_some h with ⟨hb2, h⟩ | ⟨hb2, h⟩
 ·
  refine s_true rfl hb2 ?_
  refine s_reg ?_
  iterate 2 refine v_op hT hC rfl rfl rfl rfl trivial ?_
  refine Vc.nil ?_
  refine aw_ret ?_
  refine t_ret ?_
  injection h with h
  subst h
  exact ends (Weak.refl _) rfl trivial
 ·
  refine s_false rfl hb2 ?_
  refine aw_skip ?_
  refine t_norm ?_
  refine s_reg ?_
  iterate 2 refine v_op hT hC rfl rfl rfl rfl trivial ?_
  refine Vc.nil ?_
  refine s_in ?_
  refine s_reg ?_
  refine v_op hT hC rfl rfl rfl rfl trivial ?_
  refine Vc.nil ?_
  refine live [0, 3, 6, 7, 8] [48] (s' := [_, _, _, _, _]) (o' := [_]) rfl rfl ?_
  obtain ⟨v23, hl, h⟩ := bnd_some h
  refine s_loop (fun v16 => ([(6, .sv (.int .i64 v16.1)), (7, .sv (.int .i64 v16.2.1)), (8, .sv (.int .i64 v16.2.2))], [])) (fun v23 => ([(6, .sv (.int .i64 v23.1)), (7, .sv (.int .i64 v23.2)), (0, .any), (3, .any), (8, .any)], [(48, none)])) hl ?_ ?_ ?_
  ·
   try dsimp only
   apply w_conv hC []
   ·
    exact co
   ·
    rfl
   ·
    decide
   ·
    rfl
  ·
   intro v16 s hs
   have h := hs
   unfold impl_BestGuess_l2 at h
   refine s_in ?_
   refine s_reg ?_
   iterate 2 refine v_op hT hC rfl rfl rfl rfl trivial ?_
   refine Vc.nil ?_
   rcases sel_some h with ⟨hb12, h⟩ | ⟨hb12, h⟩
   ·
    refine s_true rfl hb12 ?_
    refine aw_skip ?_
    refine t_norm ?_
    refine live [0, 3, 6, 7, 8] [48] (s' := [_, _, _, _, _]) (o' := [_]) rfl rfl ?_
    obtain ⟨v24, h1, h⟩ := bnd_some h
    refine aw_to ([(6, .sv (.int .i64 v24.1)), (7, .sv (.int .i64 v24.2))], []) ?_ ?_
    ·
     have h := h1
     refine s_block ?_
     refine s_reg ?_
     iterate 3 refine v_op hT hC rfl rfl rfl rfl trivial ?_
     obtain ⟨q25, hq, h⟩ := bnd_some h
     refine v_call hC [(16, 400)] rfl rfl rfl rfl Tryz.call59 (impl_GuessOf_ac hq) rfl (by decide) trivial rfl (.inl rfl) rfl ?_
     obtain ⟨q26, hq, h⟩ := bnd_some h
     refine v_call hC [] rfl rfl rfl rfl Tryz.call60 (impl_gap_ac hq) rfl (by decide) trivial rfl (.inr ⟨rfl, trivial⟩) rfl ?_
     refine v_op hT hC rfl rfl rfl rfl trivial ?_
     obtain ⟨q27, hq, h⟩ := bnd_some h
     refine v_call hC [] rfl rfl rfl rfl Tryz.call118 (impl_UeSize_ac hq) rfl (by decide) trivial rfl (.inl rfl) rfl ?_
     iterate 2 refine v_op hT hC rfl rfl rfl rfl trivial ?_
     refine Vc.nil ?_
     refine live [0, 3, 6, 7, 8, 9] [48] (s' := [_, _, _, _, _, _]) (o' := [_]) rfl rfl ?_
     obtain ⟨v28, h1, h⟩ := bnd_some h
     refine aw_to ([(36, .sv (.bool v28))], []) ?_ ?_
     ·
      have h := h1
      refine aw_region ?_
      iterate 3 refine v_op hT hC rfl rfl rfl rfl trivial ?_
      rcases sel_some h with ⟨hb13, h⟩ | ⟨hb13, h⟩
      ·
       refine v_off hC rfl rfl rfl rfl hb13 rfl rfl ?_
       refine v_off hC rfl rfl rfl rfl hb13 rfl rfl ?_
       refine v_off hC rfl rfl rfl rfl hb13 rfl rfl ?_
       refine v_pick hC rfl rfl rfl (b := true) hb13 rfl rfl rfl trivial ?_
       refine Vc.nil ?_
       injection h with h
       subst h
       refine m_norm ?_
       apply w_conv hC []
       ·
        exact co
       ·
        rfl
       ·
        decide
       ·
        rfl
      ·
       iterate 3 refine v_on hT hC rfl rfl rfl rfl hb13 rfl rfl rfl trivial ?_
       refine v_pick hC rfl rfl rfl (b := false) hb13 rfl rfl rfl trivial ?_
       refine Vc.nil ?_
       injection h with h
       subst h
       refine m_norm ?_
       apply w_conv hC []
       ·
        exact co
       ·
        rfl
       ·
        decide
       ·
        rfl
     rcases sel_some h with ⟨hb14, h⟩ | ⟨hb14, h⟩
     ·
      refine s_true rfl hb14 ?_
      refine aw_region ?_
      iterate 4 refine v_op hT hC rfl rfl rfl rfl trivial ?_
      refine Vc.nil ?_
      refine b_norm ?_
      injection h with h
      subst h
      refine m_norm ?_
      try dsimp only
      apply w_conv hC []
      ·
       exact co
      ·
       rfl
      ·
       decide
      ·
       rfl
     ·
      refine s_false rfl hb14 ?_
      refine aw_skip ?_
      refine b_norm ?_
      injection h with h
      subst h
      refine m_norm ?_
      try dsimp only
      apply w_conv hC []
      ·
       exact co
      ·
       rfl
      ·
       decide
      ·
       rfl
    refine aw_region ?_
    iterate 3 refine v_op hT hC rfl rfl rfl rfl trivial ?_
    refine Vc.nil ?_
    injection h with h
    subst h
    refine r_go ?_
    try dsimp only
    apply w_conv hC []
    ·
     exact co
    ·
     rfl
    ·
     decide
    ·
     rfl
   ·
    refine s_false rfl hb12 ?_
    refine aw_exit ?_
    refine t_exit ?_
    injection h with h
    subst h
    refine r_exit ?_
    refine o_out ?_
    try dsimp only
    apply w_conv hC []
    ·
     exact co
    ·
     rfl
    ·
     decide
    ·
     rfl
  refine t_norm ?_
  refine s_reg ?_
  iterate 4 refine v_op hT hC rfl rfl rfl rfl trivial ?_
  refine Vc.nil ?_
  refine aw_ret ?_
  injection h with h
  subst h
  exact ends (Weak.refl _) rfl trivial
def impl_lessened_res (r : (List Int)) : AV := .own 16
def impl_lessened_obs (r : (List Int)) : Objs := [(16, .ints .i64 r)]
theorem impl_lessened_ac {p0 : (List Int)} {p1 : (List Int)} {r : (List Int)} (h : impl_lessened p0 p1 = some r) : AC Tryz.prog 58 [.sv (.ints .i64 p0), .sv (.ints .i64 p1)] [] (impl_lessened_res r) (impl_lessened_obs r) := by
 refine ac_of_body hT Tryz.func58 rfl fun C hC => ?_
 unfold impl_lessened at h
 refine s_reg ?_
 refine v_op hT hC rfl rfl rfl rfl trivial ?_
 refine Vc.nil ?_
 refine s_reg ?_
 iterate 2 refine v_op hT hC rfl rfl rfl rfl trivial ?_
 refine Vc.nil ?_
 refine s_in ?_
 refine s_reg ?_
 iterate 3 refine v_op hT hC rfl rfl rfl rfl trivial ?_
 refine Vc.nil ?_
 refine live [1, 5, 9, 10, 11] [128] (s' := [_, _, _, _, _]) (o' := [_]) rfl rfl ?_
 obtain ⟨v4, hl, h⟩ := bnd_some h
 refine s_loop (fun v2 => ([(11, .sv (.int .i64 v2.1))], [(128, some (.ints .i64 v2.2))])) (fun v4 => ([(1, .any), (9, .any), (10, .any), (11, .any)], [(128, some (.ints .i64 v4))])) hl ?_ ?_ ?_
 ·
  try dsimp only
  apply w_conv hC []
  ·
   exact co
  ·
   rfl
  ·
   decide
  ·
   rfl
 ·
  intro v2 s hs
  have h := hs
  unfold impl_lessened_l2 at h
  refine s_reg ?_
  refine v_op hT hC rfl rfl rfl rfl trivial ?_
  refine Vc.nil ?_
  refine s_in ?_
  rcases sel_some h with ⟨hb3, h⟩ | ⟨hb3, h⟩
  ·
   refine s_true rfl hb3 ?_
   refine aw_skip ?_
   refine t_norm ?_
   refine s_in ?_
   refine s_block ?_
   refine s_reg ?_
   refine v_op hT hC rfl rfl rfl rfl trivial ?_
   obtain ⟨hq, h⟩ := req_some h
   refine v_op hT hC rfl rfl rfl rfl hq ?_
   iterate 3 refine v_op hT hC rfl rfl rfl rfl trivial ?_
   refine Vc.nil ?_
   refine aw_region ?_
   iterate 4 refine v_op hT hC rfl rfl rfl rfl trivial ?_
   obtain ⟨hq, h⟩ := req_some h
   refine v_op hT hC rfl rfl rfl rfl hq ?_
   iterate 3 refine v_op hT hC rfl rfl rfl rfl trivial ?_
   obtain ⟨hq, h⟩ := req_some h
   refine v_op hT hC rfl rfl rfl rfl ⟨trivial, hq⟩ ?_
   refine v_op hT hC rfl rfl rfl rfl trivial ?_
   refine Vc.nil ?_
   refine b_norm ?_
   refine t_norm ?_
   refine aw_region ?_
   iterate 2 refine v_op hT hC rfl rfl rfl rfl trivial ?_
   refine Vc.nil ?_
   injection h with h
   subst h
   refine r_go ?_
   try dsimp only
   apply w_conv hC [(128, 384)]
   ·
    exact co
   ·
    rfl
   ·
    decide
   ·
    rfl
  ·
   refine s_false rfl hb3 ?_
   refine aw_exit ?_
   refine t_exit ?_
   injection h with h
   subst h
   refine r_exit ?_
   refine o_out ?_
   apply w_conv hC []
   ·
    exact co
   ·
    rfl
   ·
    decide
   ·
    rfl
 refine t_norm ?_
 refine s_reg ?_
 iterate 2 refine v_op hT hC rfl rfl rfl rfl trivial ?_
 refine Vc.nil ?_
 refine aw_ret ?_
 injection h with h
 subst h
 refine ends (τ := ⟨[(4, .own 16)], [(16, some (.ints .i64 v4))]⟩) ?_ rfl ⟨rfl, trivial⟩
 apply w_conv hC [(16, 128)]
 ·
  exact co
 ·
  rfl
 ·
  decide
 ·
  rfl
def impl_scanOrder_res (r : (List Int)) : AV := .own 16
def impl_scanOrder_obs (r : (List Int)) : Objs := [(16, .ints .i64 r)]
theorem impl_scanOrder_ac {p0 : Int} {r : (List Int)} (h : impl_scanOrder p0 = some r) : AC Tryz.prog 184 [.sv (.int .i64 p0)] [] (impl_scanOrder_res r) (impl_scanOrder_obs r) := by
 refine ac_of_body hT Tryz.func184 rfl fun C hC => ?_
 unfold impl_scanOrder at h
 refine s_reg ?_
 refine v_op hT hC rfl rfl rfl rfl trivial ?_
 refine Vc.nil ?_
 refine s_reg ?_
 iterate 2 refine v_op hT hC rfl rfl rfl rfl trivial ?_
 refine Vc.nil ?_
 refine s_in ?_
 refine s_reg ?_
 refine v_op hT hC rfl rfl rfl rfl trivial ?_
 refine Vc.nil ?_
 refine live [0, 3, 4] [128] (s' := [_, _, _]) (o' := [_]) rfl rfl ?_
 obtain ⟨v32, hl, h⟩ := bnd_some h
 refine s_loop (fun v16 => ([(4, .sv (.int .i64 v16.1))], [(128, some (.ints .i64 v16.2))])) (fun v32 => ([(0, .any), (4, .any)], [(128, some (.ints .i64 v32))])) hl ?_ ?_ ?_
 ·
  try dsimp only
  apply w_conv hC []
  ·
   exact co
  ·
   rfl
  ·
   decide
  ·
   rfl
 ·
  intro v16 s hs
  have h := hs
  unfold impl_scanOrder_l12 at h
  refine s_in ?_
  refine s_reg ?_
  iterate 5 refine v_op hT hC rfl rfl rfl rfl trivial ?_
  refine Vc.nil ?_
  rcases sel_some h with ⟨hb27, h⟩ | ⟨hb27, h⟩
  ·
   refine s_true rfl hb27 ?_
   refine aw_skip ?_
   refine t_norm ?_
   refine s_in ?_
   refine s_block ?_
   refine s_reg ?_
   refine v_op hT hC rfl rfl rfl rfl trivial ?_
   refine Vc.nil ?_
   refine live [0, 3, 4, 5] [128] (s' := [_, _, _, _]) (o' := [_]) rfl rfl ?_
   obtain ⟨v42, hl, h⟩ := bnd_some h
   refine s_loop (fun v37 => ([(5, .sv (.int .i64 v37.1))], [(128, some (.ints .i64 v37.2))])) (fun v42 => ([(5, .any)], [(128, some (.ints .i64 v42))])) hl ?_ ?_ ?_
   ·
    try dsimp only
    apply w_conv hC []
    ·
     exact co
    ·
     rfl
    ·
     decide
    ·
     rfl
   ·
    intro v37 s hs
    have h := hs
    unfold impl_scanOrder_l14 at h
    refine s_in ?_
    refine s_reg ?_
    iterate 3 refine v_op hT hC rfl rfl rfl rfl trivial ?_
    refine Vc.nil ?_
    rcases sel_some h with ⟨hb36, h⟩ | ⟨hb36, h⟩
    ·
     refine s_true rfl hb36 ?_
     refine aw_skip ?_
     refine t_norm ?_
     refine live [0, 3, 4, 5] [128] (s' := [_, _, _, _]) (o' := [_]) rfl rfl ?_
     obtain ⟨v43, h1, h⟩ := bnd_some h
     refine aw_to ([], [(128, some (.ints .i64 v43))]) ?_ ?_
     ·
      have h := h1
      refine s_block ?_
      refine s_reg ?_
      iterate 2 refine v_op hT hC rfl rfl rfl rfl trivial ?_
      refine Vc.nil ?_
      refine live [0, 3, 4, 5, 6] [128] (s' := [_, _, _, _, _]) (o' := [_]) rfl rfl ?_
      obtain ⟨v44, h1, h⟩ := bnd_some h
      refine aw_to ([(6, .sv (.int .i64 v44))], []) ?_ ?_
      ·
       have h := h1
       refine s_reg ?_
       refine v_op hT hC rfl rfl rfl rfl trivial ?_
       obtain ⟨hq, h⟩ := req_some h
       refine v_op hT hC rfl rfl rfl rfl hq ?_
       refine v_op hT hC rfl rfl rfl rfl trivial ?_
       refine Vc.nil ?_
       rcases sel_some h with ⟨hb37, h⟩ | ⟨hb37, h⟩
       ·
        refine s_true rfl hb37 ?_
        refine aw_region ?_
        iterate 4 refine v_op hT hC rfl rfl rfl rfl trivial ?_
        refine Vc.nil ?_
        injection h with h
        subst h
        refine m_norm ?_
        apply w_conv hC []
        ·
         exact co
        ·
         rfl
        ·
         decide
        ·
         rfl
       ·
        refine s_false rfl hb37 ?_
        refine aw_skip ?_
        injection h with h
        subst h
        refine m_norm ?_
        apply w_conv hC []
        ·
         exact co
        ·
         rfl
        ·
         decide
        ·
         rfl
      refine s_reg ?_
      iterate 4 refine v_op hT hC rfl rfl rfl rfl trivial ?_
      refine Vc.nil ?_
      refine live [0, 3, 4, 5, 6, 7] [128] (s' := [_, _, _, _, _, _]) (o' := [_]) rfl rfl ?_
      obtain ⟨v45, h1, h⟩ := bnd_some h
      refine aw_to ([(38, .sv (.bool v45))], []) ?_ ?_
      ·
       have h := h1
       refine aw_region ?_
       iterate 4 refine v_op hT hC rfl rfl rfl rfl trivial ?_
       rcases sel_some h with ⟨hb38, h⟩ | ⟨hb38, h⟩
       ·
        iterate 3 refine v_on hT hC rfl rfl rfl rfl hb38 rfl rfl rfl trivial ?_
        refine v_pick hC rfl rfl rfl (b := true) hb38 rfl rfl rfl trivial ?_
        refine Vc.nil ?_
        injection h with h
        subst h
        refine m_norm ?_
        apply w_conv hC []
        ·
         exact co
        ·
         rfl
        ·
         decide
        ·
         rfl
       ·
        refine v_off hC rfl rfl rfl rfl hb38 rfl rfl ?_
        refine v_off hC rfl rfl rfl rfl hb38 rfl rfl ?_
        refine v_off hC rfl rfl rfl rfl hb38 rfl rfl ?_
        refine v_pick hC rfl rfl rfl (b := false) hb38 rfl rfl rfl trivial ?_
        refine Vc.nil ?_
        injection h with h
        subst h
        refine m_norm ?_
        apply w_conv hC []
        ·
         exact co
        ·
         rfl
        ·
         decide
        ·
         rfl
      rcases sel_some h with ⟨hb39, h⟩ | ⟨hb39, h⟩
      ·
       refine s_true rfl hb39 ?_
       refine aw_region ?_
       iterate 7 refine v_op hT hC rfl rfl rfl rfl trivial ?_
       obtain ⟨hq, h⟩ := req_some h
       refine v_op hT hC rfl rfl rfl rfl ⟨trivial, hq⟩ ?_
       refine v_op hT hC rfl rfl rfl rfl trivial ?_
       refine Vc.nil ?_
       refine b_norm ?_
       injection h with h
       subst h
       refine m_norm ?_
       apply w_conv hC [(128, 736)]
       ·
        exact co
       ·
        rfl
       ·
        decide
       ·
        rfl
      ·
       refine s_false rfl hb39 ?_
       refine aw_skip ?_
       refine b_norm ?_
       injection h with h
       subst h
       refine m_norm ?_
       apply w_conv hC []
       ·
        exact co
       ·
        rfl
       ·
        decide
       ·
        rfl
     refine aw_region ?_
     iterate 3 refine v_op hT hC rfl rfl rfl rfl trivial ?_
     refine Vc.nil ?_
     injection h with h
     subst h
     refine r_go ?_
     try dsimp only
     apply w_conv hC []
     ·
      exact co
     ·
      rfl
     ·
      decide
     ·
      rfl
    ·
     refine s_false rfl hb36 ?_
     refine aw_exit ?_
     refine t_exit ?_
     injection h with h
     subst h
     refine r_exit ?_
     refine o_out ?_
     apply w_conv hC []
     ·
      exact co
     ·
      rfl
     ·
      decide
     ·
      rfl
   refine b_norm ?_
   refine t_norm ?_
   refine aw_region ?_
   iterate 3 refine v_op hT hC rfl rfl rfl rfl trivial ?_
   refine Vc.nil ?_
   injection h with h
   subst h
   refine r_go ?_
   try dsimp only
   apply w_conv hC []
   ·
    exact co
   ·
    rfl
   ·
    decide
   ·
    rfl
  ·
   refine s_false rfl hb27 ?_
   refine aw_exit ?_
   refine t_exit ?_
   injection h with h
   subst h
   refine r_exit ?_
   refine o_out ?_
   apply w_conv hC []
   ·
    exact co
   ·
    rfl
   ·
    decide
   ·
    rfl
 refine t_norm ?_
 refine s_reg ?_
 iterate 2 refine v_op hT hC rfl rfl rfl rfl trivial ?_
 refine Vc.nil ?_
 refine aw_ret ?_
 injection h with h
 subst h
 refine ends (τ := ⟨[(2, .own 16)], [(16, some (.ints .i64 v32))]⟩) ?_ rfl ⟨rfl, trivial⟩
 apply w_conv hC [(16, 128)]
 ·
  exact co
 ·
  rfl
 ·
  decide
 ·
  rfl
def impl_Scanned_res (r : ((List Int) × Bool)) : AV := .tup [.own 16, .sv (.bool r.2)]
def impl_Scanned_obs (r : ((List Int) × Bool)) : Objs := [(16, .ints .i64 r.1)]
theorem impl_Scanned_ac {p0 : Int} {p1 : (List Int)} {r : ((List Int) × Bool)} (h : impl_Scanned p0 p1 = some r) : AC Tryz.prog 119 [.sv (.int .i64 p0), .sv (.ints .i64 p1)] [] (impl_Scanned_res r) (impl_Scanned_obs r) := by
 refine ac_of_body hT Tryz.func119 rfl fun C hC => ?_
 unfold impl_Scanned at h
 refine s_reg ?_
 iterate 2 refine v_op hT hC rfl rfl rfl rfl trivial ?_
 refine Vc.nil ?_
 refine s_reg ?_
 iterate 2 refine v_op hT hC rfl rfl rfl rfl trivial ?_
 refine Vc.nil ?_
 refine s_in ?_
 refine live [0, 1, 6] [144] (s' := [_, _, _]) (o' := [_]) rfl rfl ?_
 obtain ⟨v1, h1, h⟩ := bnd_some h
 refine aw_to ([(23, .sv (.bool v1))], []) ?_ ?_
 ·
  have h := h1
  refine aw_region ?_
  iterate 3 refine v_op hT hC rfl rfl rfl rfl trivial ?_
  rcases sel_some h with ⟨hb1, h⟩ | ⟨hb1, h⟩
  ·
   iterate 2 refine v_on hT hC rfl rfl rfl rfl hb1 rfl rfl rfl trivial ?_
   refine v_pick hC rfl rfl rfl (b := true) hb1 rfl rfl rfl trivial ?_
   refine v_op hT hC rfl rfl rfl rfl trivial ?_
   rcases sel_some h with ⟨hb2, h⟩ | ⟨hb2, h⟩
   ·
    refine v_off hC rfl rfl rfl rfl hb2 rfl rfl ?_
    refine v_off hC rfl rfl rfl rfl hb2 rfl rfl ?_
    refine v_off hC rfl rfl rfl rfl hb2 rfl rfl ?_
    refine v_off hC rfl rfl rfl rfl hb2 rfl rfl ?_
    refine v_off hC rfl rfl rfl rfl hb2 rfl rfl ?_
    refine v_off hC rfl rfl rfl rfl hb2 rfl rfl ?_
    refine v_pick hC rfl rfl rfl (b := true) hb2 rfl rfl rfl trivial ?_
    refine Vc.nil ?_
    injection h with h
    subst h
    refine m_norm ?_
    apply w_conv hC []
    ·
     exact co
    ·
     rfl
    ·
     decide
    ·
     rfl
   ·
    iterate 6 refine v_on hT hC rfl rfl rfl rfl hb2 rfl rfl rfl trivial ?_
    refine v_pick hC rfl rfl rfl (b := false) hb2 rfl rfl rfl trivial ?_
    refine Vc.nil ?_
    injection h with h
    subst h
    refine m_norm ?_
    apply w_conv hC []
    ·
     exact co
    ·
     rfl
    ·
     decide
    ·
     rfl
  ·
   refine v_off hC rfl rfl rfl rfl hb1 rfl rfl ?_
   refine v_off hC rfl rfl rfl rfl hb1 rfl rfl ?_
   refine v_pick hC rfl rfl rfl (b := false) hb1 rfl rfl rfl trivial ?_
   refine v_op hT hC rfl rfl rfl rfl trivial ?_
   iterate 6 refine v_on hT hC rfl rfl rfl rfl rfl rfl rfl rfl trivial ?_
   refine v_op hT hC rfl rfl rfl rfl trivial ?_
   refine Vc.nil ?_
   injection h with h
   subst h
   refine m_norm ?_
   apply w_conv hC []
   ·
    exact co
   ·
    rfl
   ·
    decide
   ·
    rfl
 rcases sel_some h with ⟨hb3, h⟩ | ⟨hb3, h⟩
 ·
  refine s_true rfl hb3 ?_
  refine s_reg ?_
  iterate 3 refine v_op hT hC rfl rfl rfl rfl trivial ?_
  refine Vc.nil ?_
  refine aw_ret ?_
  refine t_ret ?_
  injection h with h
  subst h
  refine ends (τ := ⟨[(4, .own 16), (5, .sv (.bool false))], [(16, some (.ints .i64 ([] : List Int)))]⟩) ?_ rfl ⟨rfl, trivial⟩
  apply w_conv hC [(16, 144)]
  ·
   exact co
  ·
   rfl
  ·
   decide
  ·
   rfl
 ·
  refine s_false rfl hb3 ?_
  refine aw_skip ?_
  refine t_norm ?_
  refine s_in ?_
  refine s_reg ?_
  refine v_op hT hC rfl rfl rfl rfl trivial ?_
  obtain ⟨q2, hq, h⟩ := bnd_some h
  refine v_call hC [(16, 416)] rfl rfl rfl rfl Tryz.call184 (impl_scanOrder_ac hq) rfl (by decide) trivial rfl (.inl rfl) rfl ?_
  iterate 2 refine v_op hT hC rfl rfl rfl rfl trivial ?_
  refine Vc.nil ?_
  refine live [1, 6, 26, 27, 28] [144, 416] (s' := [_, _, _, _, _]) (o' := [_, _]) rfl rfl ?_
  obtain ⟨v6, hl, h⟩ := bnd_some h
  refine s_loop (fun v4 => ([(28, .sv (.int .i64 v4.1))], [(144, some (.ints .i64 v4.2))])) (fun v6 => ([(1, .any), (26, .any), (27, .any), (28, .any)], [(144, some (.ints .i64 v6)), (416, none)])) hl ?_ ?_ ?_
  ·
   try dsimp only
   apply w_conv hC []
   ·
    exact co
   ·
    rfl
   ·
    decide
   ·
    rfl
  ·
   intro v4 s hs
   have h := hs
   unfold impl_Scanned_l2 at h
   refine s_reg ?_
   refine v_op hT hC rfl rfl rfl rfl trivial ?_
   refine Vc.nil ?_
   refine s_in ?_
   rcases sel_some h with ⟨hb6, h⟩ | ⟨hb6, h⟩
   ·
    refine s_true rfl hb6 ?_
    refine aw_skip ?_
    refine t_norm ?_
    refine s_in ?_
    refine s_block ?_
    refine s_reg ?_
    obtain ⟨hq, h⟩ := req_some h
    refine v_op hT hC rfl rfl rfl rfl hq ?_
    obtain ⟨hq, h⟩ := req_some h
    refine v_op hT hC rfl rfl rfl rfl hq ?_
    refine v_op hT hC rfl rfl rfl rfl trivial ?_
    refine Vc.nil ?_
    refine aw_region ?_
    iterate 3 refine v_op hT hC rfl rfl rfl rfl trivial ?_
    obtain ⟨hq, h⟩ := req_some h
    refine v_op hT hC rfl rfl rfl rfl hq ?_
    iterate 2 refine v_op hT hC rfl rfl rfl rfl trivial ?_
    obtain ⟨hq, h⟩ := req_some h
    refine v_op hT hC rfl rfl rfl rfl ⟨trivial, hq⟩ ?_
    refine v_op hT hC rfl rfl rfl rfl trivial ?_
    refine Vc.nil ?_
    refine b_norm ?_
    refine t_norm ?_
    refine aw_region ?_
    iterate 2 refine v_op hT hC rfl rfl rfl rfl trivial ?_
    refine Vc.nil ?_
    injection h with h
    subst h
    refine r_go ?_
    try dsimp only
    apply w_conv hC [(144, 608)]
    ·
     exact co
    ·
     rfl
    ·
     decide
    ·
     rfl
   ·
    refine s_false rfl hb6 ?_
    refine aw_exit ?_
    refine t_exit ?_
    injection h with h
    subst h
    refine r_exit ?_
    refine o_out ?_
    apply w_conv hC []
    ·
     exact co
    ·
     rfl
    ·
     decide
    ·
     rfl
  refine t_norm ?_
  refine s_reg ?_
  iterate 3 refine v_op hT hC rfl rfl rfl rfl trivial ?_
  refine Vc.nil ?_
  refine aw_ret ?_
  injection h with h
  subst h
  refine ends (τ := ⟨[(4, .own 16), (5, .sv (.bool true))], [(16, some (.ints .i64 v6))]⟩) ?_ rfl ⟨rfl, trivial⟩
  apply w_conv hC [(16, 144)]
  ·
   exact co
  ·
   rfl
  ·
   decide
  ·
   rfl
def impl_SignOf_res (r : Int) : AV := .sv (.int .i64 r)
def impl_SignOf_obs (r : Int) : Objs := []
theorem impl_SignOf_ac {p0 : Int} {p1 : Int} {r : Int} (h : impl_SignOf p0 p1 = some r) : AC Tryz.prog 231 [.sv (.int .i64 p0), .sv (.int .i64 p1)] [] (impl_SignOf_res r) (impl_SignOf_obs r) := by
 refine ac_of_body hT Tryz.func231 rfl fun C hC => ?_
 unfold impl_SignOf at h
 refine s_reg ?_
 refine v_op hT hC rfl rfl rfl rfl trivial ?_
 refine Vc.nil ?_
 refine s_in ?_
 refine live [0, 1] [] (s' := [_, _]) (o' := []) rfl rfl ?_
 obtain ⟨v1, h1, h⟩ := bnd_some h
 refine aw_to ([(13, .sv (.bool v1))], []) ?_ ?_
 ·
  have h := h1
  refine aw_region ?_
  refine v_op hT hC rfl rfl rfl rfl trivial ?_
  obtain ⟨q2, hq, h⟩ := bnd_some h
  refine v_call hC [] rfl rfl rfl rfl Tryz.call54 (impl_within_ac hq) rfl (by decide) trivial rfl (.inl rfl) rfl ?_
  iterate 2 refine v_op hT hC rfl rfl rfl rfl trivial ?_
  rcases sel_some h with ⟨hb1, h⟩ | ⟨hb1, h⟩
  ·
   refine v_on hT hC rfl rfl rfl rfl (congrArg Bool.not hb1) rfl rfl rfl trivial ?_
   obtain ⟨q3, hq, h⟩ := bnd_some h
   refine v_call_on hC [] rfl rfl rfl rfl (congrArg Bool.not hb1) rfl rfl rfl Tryz.call54 (impl_within_ac hq) rfl (by decide) trivial rfl (.inl rfl) rfl ?_
   refine v_on hT hC rfl rfl rfl rfl (congrArg Bool.not hb1) rfl rfl rfl trivial ?_
   refine v_pick hC rfl rfl rfl (b := false) (congrArg Bool.not hb1) rfl rfl rfl trivial ?_
   refine Vc.nil ?_
   injection h with h
   subst h
   refine m_norm ?_
   apply w_conv hC []
   ·
    exact co
   ·
    rfl
   ·
    decide
   ·
    rfl
  ·
   refine v_off hC rfl rfl rfl rfl (congrArg Bool.not hb1) rfl rfl ?_
   refine v_off hC rfl rfl rfl rfl (congrArg Bool.not hb1) rfl rfl ?_
   refine v_off hC rfl rfl rfl rfl (congrArg Bool.not hb1) rfl rfl ?_
   refine v_pick hC rfl rfl rfl (b := true) (congrArg Bool.not hb1) rfl rfl rfl trivial ?_
   refine Vc.nil ?_
   injection h with h
   subst h
   refine m_norm ?_
   apply w_conv hC []
   ·
    exact co
   ·
    rfl
   ·
    decide
   ·
    rfl
 rcases sel_some h with ⟨hb2, h⟩ | ⟨hb2, h⟩
 ·
  refine s_true rfl hb2 ?_
  refine s_reg ?_
  refine v_op hT hC rfl rfl rfl rfl trivial ?_
  refine Vc.nil ?_
  refine aw_ret ?_
  refine t_ret ?_
  injection h with h
  subst h
  exact ends (Weak.refl _) rfl trivial
 ·
  refine s_false rfl hb2 ?_
  refine aw_skip ?_
  refine t_norm ?_
  refine s_reg ?_
  iterate 4 refine v_op hT hC rfl rfl rfl rfl trivial ?_
  refine Vc.nil ?_
  refine s_in ?_
  refine s_reg ?_
  iterate 3 refine v_op hT hC rfl rfl rfl rfl trivial ?_
  obtain ⟨hq, h⟩ := req_some h
  refine v_op hT hC rfl rfl rfl rfl hq ?_
  iterate 3 refine v_op hT hC rfl rfl rfl rfl trivial ?_
  obtain ⟨hq, h⟩ := req_some h
  refine v_op hT hC rfl rfl rfl rfl hq ?_
  iterate 2 refine v_op hT hC rfl rfl rfl rfl trivial ?_
  obtain ⟨hq, h⟩ := req_some h
  refine v_op hT hC rfl rfl rfl rfl hq ?_
  refine v_op hT hC rfl rfl rfl rfl trivial ?_
  refine Vc.nil ?_
  rcases sel_some h with ⟨hb3, h⟩ | ⟨hb3, h⟩
  ·
   refine s_true rfl hb3 ?_
   refine s_reg ?_
   refine v_op hT hC rfl rfl rfl rfl trivial ?_
   refine Vc.nil ?_
   refine aw_ret ?_
   refine t_ret ?_
   injection h with h
   subst h
   exact ends (Weak.refl _) rfl trivial
  ·
   refine s_false rfl hb3 ?_
   refine aw_skip ?_
   refine t_norm ?_
   refine s_reg ?_
   refine v_op hT hC rfl rfl rfl rfl trivial ?_
   refine Vc.nil ?_
   refine aw_ret ?_
   injection h with h
   subst h
   exact ends (Weak.refl _) rfl trivial
def impl_sums_res (r : (List Int)) : AV := .own 16
def impl_sums_obs (r : (List Int)) : Objs := [(16, .ints .i64 r)]
theorem impl_sums_ac {p0 : (List Int)} {r : (List Int)} (h : impl_sums p0 = some r) : AC Tryz.prog 185 [.sv (.ints .i64 p0)] [] (impl_sums_res r) (impl_sums_obs r) := by
 refine ac_of_body hT Tryz.func185 rfl fun C hC => ?_
 unfold impl_sums at h
 refine s_reg ?_
 refine v_op hT hC rfl rfl rfl rfl trivial ?_
 refine Vc.nil ?_
 refine s_reg ?_
 obtain ⟨hq, h⟩ := req_some h
 refine v_op hT hC rfl rfl rfl rfl ⟨hq.1, hq.2.1, hq.2.2, by decide⟩ ?_
 refine v_op hT hC rfl rfl rfl rfl trivial ?_
 refine Vc.nil ?_
 refine s_in ?_
 refine s_reg ?_
 refine v_op hT hC rfl rfl rfl rfl trivial ?_
 refine Vc.nil ?_
 refine live [0, 3, 12] [176] (s' := [_, _, _]) (o' := [_]) rfl rfl ?_
 obtain ⟨v62, hl, h⟩ := bnd_some h
 refine s_loop (fun v31 => ([(12, .sv (.int .i64 v31.1))], [(176, some (.ints .i64 v31.2))])) (fun v62 => ([(0, .any), (12, .any)], [(176, some (.ints .i64 v62))])) hl ?_ ?_ ?_
 ·
  try dsimp only
  apply w_conv hC []
  ·
   exact co
  ·
   rfl
  ·
   decide
  ·
   rfl
 ·
  intro v31 s hs
  have h := hs
  unfold impl_sums_l72 at h
  refine s_reg ?_
  refine v_op hT hC rfl rfl rfl rfl trivial ?_
  refine Vc.nil ?_
  refine s_in ?_
  rcases sel_some h with ⟨hb27, h⟩ | ⟨hb27, h⟩
  ·
   refine s_true rfl hb27 ?_
   refine aw_skip ?_
   refine t_norm ?_
   refine s_in ?_
   refine s_block ?_
   refine s_reg ?_
   iterate 2 refine v_op hT hC rfl rfl rfl rfl trivial ?_
   refine Vc.nil ?_
   refine s_reg ?_
   refine v_op hT hC rfl rfl rfl rfl trivial ?_
   refine Vc.nil ?_
   refine live [0, 3, 4, 12, 15] [176] (s' := [_, _, _, _, _]) (o' := [_]) rfl rfl ?_
   obtain ⟨v82, hl, h⟩ := bnd_some h
   refine s_loop (fun v72 => ([(15, .sv (.int .i64 v72.1))], [(176, some (.ints .i64 v72.2))])) (fun v82 => ([(4, .any), (15, .any)], [(176, some (.ints .i64 v82))])) hl ?_ ?_ ?_
   ·
    try dsimp only
    apply w_conv hC []
    ·
     exact co
    ·
     rfl
    ·
     decide
    ·
     rfl
   ·
    intro v72 s hs
    have h := hs
    unfold impl_sums_l84 at h
    refine s_reg ?_
    refine v_op hT hC rfl rfl rfl rfl trivial ?_
    refine Vc.nil ?_
    refine s_in ?_
    rcases sel_some h with ⟨hb36, h⟩ | ⟨hb36, h⟩
    ·
     refine s_true rfl hb36 ?_
     refine aw_skip ?_
     refine t_norm ?_
     refine s_in ?_
     refine s_block ?_
     refine s_reg ?_
     iterate 2 refine v_op hT hC rfl rfl rfl rfl trivial ?_
     refine Vc.nil ?_
     refine s_reg ?_
     refine v_op hT hC rfl rfl rfl rfl trivial ?_
     refine Vc.nil ?_
     refine live [0, 3, 4, 5, 12, 15, 18] [176] (s' := [_, _, _, _, _, _, _]) (o' := [_]) rfl rfl ?_
     obtain ⟨v88, hl, h⟩ := bnd_some h
     refine s_loop (fun v85 => ([(18, .sv (.int .i64 v85.1))], [(176, some (.ints .i64 v85.2))])) (fun v88 => ([(5, .any), (18, .any)], [(176, some (.ints .i64 v88))])) hl ?_ ?_ ?_
     ·
      try dsimp only
      apply w_conv hC []
      ·
       exact co
      ·
       rfl
      ·
       decide
      ·
       rfl
     ·
      intro v85 s hs
      have h := hs
      unfold impl_sums_l86 at h
      refine s_reg ?_
      refine v_op hT hC rfl rfl rfl rfl trivial ?_
      refine Vc.nil ?_
      refine s_in ?_
      rcases sel_some h with ⟨hb39, h⟩ | ⟨hb39, h⟩
      ·
       refine s_true rfl hb39 ?_
       refine aw_skip ?_
       refine t_norm ?_
       refine s_in ?_
       refine s_block ?_
       refine s_reg ?_
       iterate 2 refine v_op hT hC rfl rfl rfl rfl trivial ?_
       refine Vc.nil ?_
       refine aw_draw hm ?_
       iterate 10 refine v_op hT hC rfl rfl rfl rfl trivial ?_
       obtain ⟨hq, h⟩ := req_some h
       refine v_op hT hC rfl rfl rfl rfl hq ?_
       obtain ⟨hq, h⟩ := req_some h
       refine v_op hT hC rfl rfl rfl rfl hq ?_
       iterate 2 refine v_op hT hC rfl rfl rfl rfl trivial ?_
       obtain ⟨q89, hq, h⟩ := bnd_some h
       refine v_call hC [] rfl rfl rfl rfl Tryz.call231 (impl_SignOf_ac hq) rfl (by decide) trivial rfl (.inl rfl) rfl ?_
       iterate 5 refine v_op hT hC rfl rfl rfl rfl trivial ?_
       obtain ⟨hq, h⟩ := req_some h
       refine v_op hT hC rfl rfl rfl rfl hq ?_
       iterate 3 refine v_op hT hC rfl rfl rfl rfl trivial ?_
       obtain ⟨hq, h⟩ := req_some h
       refine v_op hT hC rfl rfl rfl rfl hq ?_
       obtain ⟨hq, h⟩ := req_some h
       refine v_op hT hC rfl rfl rfl rfl hq ?_
       refine Vc.nil ⟨by kernel_rfl, ?_⟩
       refine b_norm ?_
       refine t_norm ?_
       refine aw_region ?_
       iterate 2 refine v_op hT hC rfl rfl rfl rfl trivial ?_
       refine Vc.nil ?_
       injection h with h
       subst h
       refine r_go ?_
       try dsimp only
       apply w_conv hC []
       ·
        exact co
       ·
        rfl
       ·
        decide
       ·
        rfl
      ·
       refine s_false rfl hb39 ?_
       refine aw_exit ?_
       refine t_exit ?_
       injection h with h
       subst h
       refine r_exit ?_
       refine o_out ?_
       apply w_conv hC []
       ·
        exact co
       ·
        rfl
       ·
        decide
       ·
        rfl
     refine b_norm ?_
     refine t_norm ?_
     refine aw_region ?_
     iterate 2 refine v_op hT hC rfl rfl rfl rfl trivial ?_
     refine Vc.nil ?_
     injection h with h
     subst h
     refine r_go ?_
     try dsimp only
     apply w_conv hC []
     ·
      exact co
     ·
      rfl
     ·
      decide
     ·
      rfl
    ·
     refine s_false rfl hb36 ?_
     refine aw_exit ?_
     refine t_exit ?_
     injection h with h
     subst h
     refine r_exit ?_
     refine o_out ?_
     apply w_conv hC []
     ·
      exact co
     ·
      rfl
     ·
      decide
     ·
      rfl
   refine b_norm ?_
   refine t_norm ?_
   refine aw_region ?_
   iterate 2 refine v_op hT hC rfl rfl rfl rfl trivial ?_
   refine Vc.nil ?_
   injection h with h
   subst h
   refine r_go ?_
   try dsimp only
   apply w_conv hC []
   ·
    exact co
   ·
    rfl
   ·
    decide
   ·
    rfl
  ·
   refine s_false rfl hb27 ?_
   refine aw_exit ?_
   refine t_exit ?_
   injection h with h
   subst h
   refine r_exit ?_
   refine o_out ?_
   apply w_conv hC []
   ·
    exact co
   ·
    rfl
   ·
    decide
   ·
    rfl
 refine t_norm ?_
 refine s_reg ?_
 obtain ⟨hq, h⟩ := req_some h
 refine v_op hT hC rfl rfl rfl rfl ⟨hq.1, hq.2.1, hq.2.2, by decide⟩ ?_
 refine v_op hT hC rfl rfl rfl rfl trivial ?_
 refine Vc.nil ?_
 refine s_in ?_
 refine s_reg ?_
 refine v_op hT hC rfl rfl rfl rfl trivial ?_
 refine Vc.nil ?_
 refine live [3, 7, 50] [176, 784] (s' := [_, _, _]) (o' := [_, _]) rfl rfl ?_
 obtain ⟨v154, hl, h⟩ := bnd_some h
 refine s_loop (fun v123 => ([(50, .sv (.int .i64 v123.1))], [(784, some (.ints .i64 v123.2))])) (fun v154 => ([(3, .any), (50, .any)], [(784, some (.ints .i64 v154)), (176, none)])) hl ?_ ?_ ?_
 ·
  try dsimp only
  apply w_conv hC []
  ·
   exact co
  ·
   rfl
  ·
   decide
  ·
   rfl
 ·
  intro v123 s hs
  have h := hs
  unfold impl_sums_l158 at h
  refine s_reg ?_
  refine v_op hT hC rfl rfl rfl rfl trivial ?_
  refine Vc.nil ?_
  refine s_in ?_
  rcases sel_some h with ⟨hb66, h⟩ | ⟨hb66, h⟩
  ·
   refine s_true rfl hb66 ?_
   refine aw_skip ?_
   refine t_norm ?_
   refine s_in ?_
   refine s_block ?_
   refine s_reg ?_
   iterate 2 refine v_op hT hC rfl rfl rfl rfl trivial ?_
   refine Vc.nil ?_
   refine s_reg ?_
   refine v_op hT hC rfl rfl rfl rfl trivial ?_
   refine Vc.nil ?_
   refine live [3, 7, 8, 50, 53] [176, 784] (s' := [_, _, _, _, _]) (o' := [_, _]) rfl rfl ?_
   obtain ⟨v174, hl, h⟩ := bnd_some h
   refine s_loop (fun v164 => ([(53, .sv (.int .i64 v164.1))], [(784, some (.ints .i64 v164.2))])) (fun v174 => ([(8, .any), (53, .any)], [(784, some (.ints .i64 v174))])) hl ?_ ?_ ?_
   ·
    try dsimp only
    apply w_conv hC []
    ·
     exact co
    ·
     rfl
    ·
     decide
    ·
     rfl
   ·
    intro v164 s hs
    have h := hs
    unfold impl_sums_l170 at h
    refine s_reg ?_
    refine v_op hT hC rfl rfl rfl rfl trivial ?_
    refine Vc.nil ?_
    refine s_in ?_
    rcases sel_some h with ⟨hb75, h⟩ | ⟨hb75, h⟩
    ·
     refine s_true rfl hb75 ?_
     refine aw_skip ?_
     refine t_norm ?_
     refine s_in ?_
     refine s_block ?_
     refine s_reg ?_
     iterate 2 refine v_op hT hC rfl rfl rfl rfl trivial ?_
     refine Vc.nil ?_
     refine s_reg ?_
     refine v_op hT hC rfl rfl rfl rfl trivial ?_
     refine Vc.nil ?_
     refine live [3, 7, 8, 9, 50, 53, 56] [176, 784] (s' := [_, _, _, _, _, _, _]) (o' := [_, _]) rfl rfl ?_
     obtain ⟨v180, hl, h⟩ := bnd_some h
     refine s_loop (fun v177 => ([(56, .sv (.int .i64 v177.1))], [(784, some (.ints .i64 v177.2))])) (fun v180 => ([(9, .any), (56, .any)], [(784, some (.ints .i64 v180))])) hl ?_ ?_ ?_
     ·
      try dsimp only
      apply w_conv hC []
      ·
       exact co
      ·
       rfl
      ·
       decide
      ·
       rfl
     ·
      intro v177 s hs
      have h := hs
      unfold impl_sums_l172 at h
      refine s_reg ?_
      refine v_op hT hC rfl rfl rfl rfl trivial ?_
      refine Vc.nil ?_
      refine s_in ?_
      rcases sel_some h with ⟨hb78, h⟩ | ⟨hb78, h⟩
      ·
       refine s_true rfl hb78 ?_
       refine aw_skip ?_
       refine t_norm ?_
       refine s_in ?_
       refine s_block ?_
       refine s_reg ?_
       iterate 2 refine v_op hT hC rfl rfl rfl rfl trivial ?_
       refine Vc.nil ?_
       refine aw_draw hm ?_
       iterate 10 refine v_op hT hC rfl rfl rfl rfl trivial ?_
       obtain ⟨hq, h⟩ := req_some h
       refine v_op hT hC rfl rfl rfl rfl hq ?_
       obtain ⟨hq, h⟩ := req_some h
       refine v_op hT hC rfl rfl rfl rfl hq ?_
       iterate 2 refine v_op hT hC rfl rfl rfl rfl trivial ?_
       obtain ⟨q181, hq, h⟩ := bnd_some h
       refine v_call hC [] rfl rfl rfl rfl Tryz.call231 (impl_SignOf_ac hq) rfl (by decide) trivial rfl (.inl rfl) rfl ?_
       iterate 5 refine v_op hT hC rfl rfl rfl rfl trivial ?_
       obtain ⟨hq, h⟩ := req_some h
       refine v_op hT hC rfl rfl rfl rfl hq ?_
       obtain ⟨hq, h⟩ := req_some h
       refine v_op hT hC rfl rfl rfl rfl hq ?_
       iterate 2 refine v_op hT hC rfl rfl rfl rfl trivial ?_
       obtain ⟨hq, h⟩ := req_some h
       refine v_op hT hC rfl rfl rfl rfl hq ?_
       obtain ⟨hq, h⟩ := req_some h
       refine v_op hT hC rfl rfl rfl rfl hq ?_
       refine Vc.nil ⟨by kernel_rfl, ?_⟩
       refine b_norm ?_
       refine t_norm ?_
       refine aw_region ?_
       iterate 2 refine v_op hT hC rfl rfl rfl rfl trivial ?_
       refine Vc.nil ?_
       injection h with h
       subst h
       refine r_go ?_
       try dsimp only
       apply w_conv hC []
       ·
        exact co
       ·
        rfl
       ·
        decide
       ·
        rfl
      ·
       refine s_false rfl hb78 ?_
       refine aw_exit ?_
       refine t_exit ?_
       injection h with h
       subst h
       refine r_exit ?_
       refine o_out ?_
       apply w_conv hC []
       ·
        exact co
       ·
        rfl
       ·
        decide
       ·
        rfl
     refine b_norm ?_
     refine t_norm ?_
     refine aw_region ?_
     iterate 2 refine v_op hT hC rfl rfl rfl rfl trivial ?_
     refine Vc.nil ?_
     injection h with h
     subst h
     refine r_go ?_
     try dsimp only
     apply w_conv hC []
     ·
      exact co
     ·
      rfl
     ·
      decide
     ·
      rfl
    ·
     refine s_false rfl hb75 ?_
     refine aw_exit ?_
     refine t_exit ?_
     injection h with h
     subst h
     refine r_exit ?_
     refine o_out ?_
     apply w_conv hC []
     ·
      exact co
     ·
      rfl
     ·
      decide
     ·
      rfl
   refine b_norm ?_
   refine t_norm ?_
   refine aw_region ?_
   iterate 2 refine v_op hT hC rfl rfl rfl rfl trivial ?_
   refine Vc.nil ?_
   injection h with h
   subst h
   refine r_go ?_
   try dsimp only
   apply w_conv hC []
   ·
    exact co
   ·
    rfl
   ·
    decide
   ·
    rfl
  ·
   refine s_false rfl hb66 ?_
   refine aw_exit ?_
   refine t_exit ?_
   injection h with h
   subst h
   refine r_exit ?_
   refine o_out ?_
   apply w_conv hC []
   ·
    exact co
   ·
    rfl
   ·
    decide
   ·
    rfl
 refine t_norm ?_
 refine s_reg ?_
 iterate 2 refine v_op hT hC rfl rfl rfl rfl trivial ?_
 refine Vc.nil ?_
 refine aw_ret ?_
 injection h with h
 subst h
 refine ends (τ := ⟨[(2, .own 16)], [(16, some (.ints .i64 v154))]⟩) ?_ rfl ⟨rfl, trivial⟩
 apply w_conv hC [(16, 784)]
 ·
  exact co
 ·
  rfl
 ·
  decide
 ·
  rfl
def impl_Eight_res (r : (List Int)) : AV := .own 16
def impl_Eight_obs (r : (List Int)) : Objs := [(16, .ints .i64 r)]
theorem impl_Eight_ac {p0 : (List Int)} {r : (List Int)} (h : impl_Eight p0 = some r) : AC Tryz.prog 120 [.sv (.ints .i64 p0)] [] (impl_Eight_res r) (impl_Eight_obs r) := by
 refine ac_of_body hT Tryz.func120 rfl fun C hC => ?_
 unfold impl_Eight at h
 refine s_reg ?_
 refine v_op hT hC rfl rfl rfl rfl trivial ?_
 refine Vc.nil ?_
 refine s_in ?_
 refine s_reg ?_
 refine v_op hT hC rfl rfl rfl rfl trivial ?_
 obtain ⟨q1, hq, h⟩ := bnd_some h
 refine v_call hC [] rfl rfl rfl rfl Tryz.call52 (impl_areIn_ac hq) rfl (by decide) trivial rfl (.inl rfl) rfl ?_
 refine v_op hT hC rfl rfl rfl rfl trivial ?_
 refine Vc.nil ?_
 rcases sel_some h with ⟨hb1, h⟩ | ⟨hb1, h⟩
 ·
  refine s_true rfl hb1 ?_
  refine s_reg ?_
  iterate 2 refine v_op hT hC rfl rfl rfl rfl trivial ?_
  refine Vc.nil ?_
  refine aw_ret ?_
  refine t_ret ?_
  injection h with h
  subst h
  refine ends (τ := ⟨[(2, .own 16)], [(16, some (.ints .i64 ([] : List Int)))]⟩) ?_ rfl ⟨rfl, trivial⟩
  apply w_conv hC [(16, 96)]
  ·
   exact co
  ·
   rfl
  ·
   decide
  ·
   rfl
 ·
  refine s_false rfl hb1 ?_
  refine aw_skip ?_
  refine t_norm ?_
  refine s_reg ?_
  refine v_op hT hC rfl rfl rfl rfl trivial ?_
  obtain ⟨q2, hq, h⟩ := bnd_some h
  refine v_call hC [(16, 128)] rfl rfl rfl rfl Tryz.call185 (impl_sums_ac hq) rfl (by decide) trivial rfl (.inl rfl) rfl ?_
  refine v_op hT hC rfl rfl rfl rfl trivial ?_
  refine Vc.nil ?_
  refine aw_ret ?_
  injection h with h
  subst h
  refine ends (τ := ⟨[(2, .own 16)], [(16, some (.ints .i64 q2))]⟩) ?_ rfl ⟨rfl, trivial⟩
  apply w_conv hC [(16, 128)]
  ·
   exact co
  ·
   rfl
  ·
   decide
  ·
   rfl
def impl_StepOf_res (r : Int) : AV := .sv (.int .i64 r)
def impl_StepOf_obs (r : Int) : Objs := []
theorem impl_StepOf_ac {p0 : Int} {r : Int} (h : impl_StepOf p0 = some r) : AC Tryz.prog 186 [.sv (.int .i64 p0)] [] (impl_StepOf_res r) (impl_StepOf_obs r) := by
 refine ac_of_body hT Tryz.func186 rfl fun C hC => ?_
 unfold impl_StepOf at h
 refine s_reg ?_
 refine v_op hT hC rfl rfl rfl rfl trivial ?_
 refine Vc.nil ?_
 refine s_in ?_
 refine s_reg ?_
 refine v_op hT hC rfl rfl rfl rfl trivial ?_
 obtain ⟨q1, hq, h⟩ := bnd_some h
 refine v_call hC [] rfl rfl rfl rfl Tryz.call54 (impl_within_ac hq) rfl (by decide) trivial rfl (.inl rfl) rfl ?_
 refine v_op hT hC rfl rfl rfl rfl trivial ?_
 refine Vc.nil ?_
 rcases sel_some h with ⟨hb1, h⟩ | ⟨hb1, h⟩
 ·
  refine s_true rfl hb1 ?_
  refine s_reg ?_
  refine v_op hT hC rfl rfl rfl rfl trivial ?_
  refine Vc.nil ?_
  refine aw_ret ?_
  refine t_ret ?_
  injection h with h
  subst h
  exact ends (Weak.refl _) rfl trivial
 ·
  refine s_false rfl hb1 ?_
  refine aw_skip ?_
  refine t_norm ?_
  refine s_reg ?_
  iterate 2 refine v_op hT hC rfl rfl rfl rfl trivial ?_
  obtain ⟨hq, h⟩ := req_some h
  refine v_op hT hC rfl rfl rfl rfl hq ?_
  obtain ⟨hq, h⟩ := req_some h
  refine v_op hT hC rfl rfl rfl rfl hq ?_
  obtain ⟨hq, h⟩ := req_some h
  refine v_op hT hC rfl rfl rfl rfl hq ?_
  refine v_op hT hC rfl rfl rfl rfl trivial ?_
  obtain ⟨hq, h⟩ := req_some h
  refine v_op hT hC rfl rfl rfl rfl hq ?_
  obtain ⟨hq, h⟩ := req_some h
  refine v_op hT hC rfl rfl rfl rfl hq ?_
  refine v_op hT hC rfl rfl rfl rfl trivial ?_
  refine Vc.nil ?_
  refine aw_ret ?_
  injection h with h
  subst h
  exact ends (Weak.refl _) rfl trivial
def impl_signed_res (r : Int) : AV := .sv (.int .i64 r)
def impl_signed_obs (r : Int) : Objs := []
theorem impl_signed_ac {p0 : Int} {p1 : Int} {r : Int} (h : impl_signed p0 p1 = some r) : AC Tryz.prog 187 [.sv (.int .i64 p0), .sv (.int .i64 p1)] [] (impl_signed_res r) (impl_signed_obs r) := by
 refine ac_of_body hT Tryz.func187 rfl fun C hC => ?_
 unfold impl_signed at h
 refine s_reg ?_
 refine v_op hT hC rfl rfl rfl rfl trivial ?_
 refine Vc.nil ?_
 refine s_in ?_
 refine s_reg ?_
 iterate 2 refine v_op hT hC rfl rfl rfl rfl trivial ?_
 refine Vc.nil ?_
 rcases sel_some h with ⟨hb1, h⟩ | ⟨hb1, h⟩
 ·
  refine s_true rfl hb1 ?_
  refine s_reg ?_
  iterate 3 refine v_op hT hC rfl rfl rfl rfl trivial ?_
  refine Vc.nil ?_
  refine aw_ret ?_
  refine t_ret ?_
  injection h with h
  subst h
  exact ends (Weak.refl _) rfl trivial
 ·
  refine s_false rfl hb1 ?_
  refine aw_skip ?_
  refine t_norm ?_
  refine s_reg ?_
  iterate 2 refine v_op hT hC rfl rfl rfl rfl trivial ?_
  refine Vc.nil ?_
  refine aw_ret ?_
  injection h with h
  subst h
  exact ends (Weak.refl _) rfl trivial
def impl_LargeLevel_res (r : Int) : AV := .sv (.int .i64 r)
def impl_LargeLevel_obs (r : Int) : Objs := []
theorem impl_LargeLevel_ac {p0 : Int} {p1 : Int} {r : Int} (h : impl_LargeLevel p0 p1 = some r) : AC Tryz.prog 121 [.sv (.int .i64 p0), .sv (.int .i64 p1)] [] (impl_LargeLevel_res r) (impl_LargeLevel_obs r) := by
 refine ac_of_body hT Tryz.func121 rfl fun C hC => ?_
 unfold impl_LargeLevel at h
 refine s_reg ?_
 refine v_op hT hC rfl rfl rfl rfl trivial ?_
 refine Vc.nil ?_
 refine s_in ?_
 refine live [0, 1] [] (s' := [_, _]) (o' := []) rfl rfl ?_
 obtain ⟨v1, h1, h⟩ := bnd_some h
 refine aw_to ([(13, .sv (.bool v1))], []) ?_ ?_
 ·
  have h := h1
  refine aw_region ?_
  refine v_op hT hC rfl rfl rfl rfl trivial ?_
  obtain ⟨q2, hq, h⟩ := bnd_some h
  refine v_call hC [] rfl rfl rfl rfl Tryz.call54 (impl_within_ac hq) rfl (by decide) trivial rfl (.inl rfl) rfl ?_
  iterate 2 refine v_op hT hC rfl rfl rfl rfl trivial ?_
  rcases sel_some h with ⟨hb1, h⟩ | ⟨hb1, h⟩
  ·
   refine v_on hT hC rfl rfl rfl rfl (congrArg Bool.not hb1) rfl rfl rfl trivial ?_
   obtain ⟨q3, hq, h⟩ := bnd_some h
   refine v_call_on hC [] rfl rfl rfl rfl (congrArg Bool.not hb1) rfl rfl rfl Tryz.call54 (impl_within_ac hq) rfl (by decide) trivial rfl (.inl rfl) rfl ?_
   refine v_on hT hC rfl rfl rfl rfl (congrArg Bool.not hb1) rfl rfl rfl trivial ?_
   refine v_pick hC rfl rfl rfl (b := false) (congrArg Bool.not hb1) rfl rfl rfl trivial ?_
   refine Vc.nil ?_
   injection h with h
   subst h
   refine m_norm ?_
   apply w_conv hC []
   ·
    exact co
   ·
    rfl
   ·
    decide
   ·
    rfl
  ·
   refine v_off hC rfl rfl rfl rfl (congrArg Bool.not hb1) rfl rfl ?_
   refine v_off hC rfl rfl rfl rfl (congrArg Bool.not hb1) rfl rfl ?_
   refine v_off hC rfl rfl rfl rfl (congrArg Bool.not hb1) rfl rfl ?_
   refine v_pick hC rfl rfl rfl (b := true) (congrArg Bool.not hb1) rfl rfl rfl trivial ?_
   refine Vc.nil ?_
   injection h with h
   subst h
   refine m_norm ?_
   apply w_conv hC []
   ·
    exact co
   ·
    rfl
   ·
    decide
   ·
    rfl
 rcases sel_some h with ⟨hb2, h⟩ | ⟨hb2, h⟩
 ·
  refine s_true rfl hb2 ?_
  refine s_reg ?_
  refine v_op hT hC rfl rfl rfl rfl trivial ?_
  refine Vc.nil ?_
  refine aw_ret ?_
  refine t_ret ?_
  injection h with h
  subst h
  exact ends (Weak.refl _) rfl trivial
 ·
  refine s_false rfl hb2 ?_
  refine aw_skip ?_
  refine t_norm ?_
  refine s_reg ?_
  refine v_op hT hC rfl rfl rfl rfl trivial ?_
  obtain ⟨q4, hq, h⟩ := bnd_some h
  refine v_call hC [] rfl rfl rfl rfl Tryz.call186 (impl_StepOf_ac hq) rfl (by decide) trivial rfl (.inl rfl) rfl ?_
  refine v_op hT hC rfl rfl rfl rfl trivial ?_
  refine Vc.nil ?_
  refine s_reg ?_
  refine v_op hT hC rfl rfl rfl rfl trivial ?_
  obtain ⟨q5, hq, h⟩ := bnd_some h
  refine v_call hC [] rfl rfl rfl rfl Tryz.call128 (impl_size_ac hq) rfl (by decide) trivial rfl (.inl rfl) rfl ?_
  refine v_op hT hC rfl rfl rfl rfl trivial ?_
  obtain ⟨hq, h⟩ := req_some h
  refine v_op hT hC rfl rfl rfl rfl hq ?_
  iterate 2 refine v_op hT hC rfl rfl rfl rfl trivial ?_
  obtain ⟨hq, h⟩ := req_some h
  refine v_op hT hC rfl rfl rfl rfl hq ?_
  refine v_op hT hC rfl rfl rfl rfl trivial ?_
  obtain ⟨q6, hq, h⟩ := bnd_some h
  refine v_call hC [] rfl rfl rfl rfl Tryz.call187 (impl_signed_ac hq) rfl (by decide) trivial rfl (.inl rfl) rfl ?_
  refine v_op hT hC rfl rfl rfl rfl trivial ?_
  refine Vc.nil ?_
  refine aw_ret ?_
  injection h with h
  subst h
  exact ends (Weak.refl _) rfl trivial
def impl_quarter_res (r : (List Int)) : AV := .own 16
def impl_quarter_obs (r : (List Int)) : Objs := [(16, .ints .i64 r)]
theorem impl_quarter_ac {p0 : Int} {r : (List Int)} (h : impl_quarter p0 = some r) : AC Tryz.prog 122 [.sv (.int .i64 p0)] [] (impl_quarter_res r) (impl_quarter_obs r) := by
 refine ac_of_body hT Tryz.func122 rfl fun C hC => ?_
 unfold impl_quarter at h
 refine s_reg ?_
 refine v_op hT hC rfl rfl rfl rfl trivial ?_
 refine Vc.nil ?_
 refine s_reg ?_
 iterate 2 refine v_op hT hC rfl rfl rfl rfl trivial ?_
 refine Vc.nil ?_
 refine s_in ?_
 refine s_reg ?_
 refine v_op hT hC rfl rfl rfl rfl trivial ?_
 refine Vc.nil ?_
 refine live [0, 3, 7] [96] (s' := [_, _, _]) (o' := [_]) rfl rfl ?_
 obtain ⟨v14, hl, h⟩ := bnd_some h
 refine s_loop (fun v7 => ([(7, .sv (.int .i64 v7.1))], [(96, some (.ints .i64 v7.2))])) (fun v14 => ([(0, .any), (7, .any)], [(96, some (.ints .i64 v14))])) hl ?_ ?_ ?_
 ·
  try dsimp only
  apply w_conv hC []
  ·
   exact co
  ·
   rfl
  ·
   decide
  ·
   rfl
 ·
  intro v7 s hs
  have h := hs
  unfold impl_quarter_l12 at h
  refine s_reg ?_
  refine v_op hT hC rfl rfl rfl rfl trivial ?_
  refine Vc.nil ?_
  refine s_in ?_
  rcases sel_some h with ⟨hb9, h⟩ | ⟨hb9, h⟩
  ·
   refine s_true rfl hb9 ?_
   refine aw_skip ?_
   refine t_norm ?_
   refine s_in ?_
   refine s_block ?_
   refine s_reg ?_
   iterate 2 refine v_op hT hC rfl rfl rfl rfl trivial ?_
   refine Vc.nil ?_
   refine s_reg ?_
   refine v_op hT hC rfl rfl rfl rfl trivial ?_
   refine Vc.nil ?_
   refine live [0, 3, 4, 7, 10] [96] (s' := [_, _, _, _, _]) (o' := [_]) rfl rfl ?_
   obtain ⟨v18, hl, h⟩ := bnd_some h
   refine s_loop (fun v16 => ([(10, .sv (.int .i64 v16.1))], [(96, some (.ints .i64 v16.2))])) (fun v18 => ([(4, .any), (10, .any)], [(96, some (.ints .i64 v18))])) hl ?_ ?_ ?_
   ·
    try dsimp only
    apply w_conv hC []
    ·
     exact co
    ·
     rfl
    ·
     decide
    ·
     rfl
   ·
    intro v16 s hs
    have h := hs
    unfold impl_quarter_l14 at h
    refine s_reg ?_
    refine v_op hT hC rfl rfl rfl rfl trivial ?_
    refine Vc.nil ?_
    refine s_in ?_
    rcases sel_some h with ⟨hb12, h⟩ | ⟨hb12, h⟩
    ·
     refine s_true rfl hb12 ?_
     refine aw_skip ?_
     refine t_norm ?_
     refine s_in ?_
     refine s_block ?_
     refine s_reg ?_
     iterate 2 refine v_op hT hC rfl rfl rfl rfl trivial ?_
     refine Vc.nil ?_
     refine aw_region ?_
     iterate 3 refine v_op hT hC rfl rfl rfl rfl trivial ?_
     obtain ⟨hq, h⟩ := req_some h
     refine v_op hT hC rfl rfl rfl rfl hq ?_
     iterate 6 refine v_op hT hC rfl rfl rfl rfl trivial ?_
     obtain ⟨hq, h⟩ := req_some h
     refine v_op hT hC rfl rfl rfl rfl hq ?_
     iterate 3 refine v_op hT hC rfl rfl rfl rfl trivial ?_
     obtain ⟨hq, h⟩ := req_some h
     refine v_op hT hC rfl rfl rfl rfl ⟨trivial, hq⟩ ?_
     refine v_op hT hC rfl rfl rfl rfl trivial ?_
     refine Vc.nil ?_
     refine b_norm ?_
     refine t_norm ?_
     refine aw_region ?_
     iterate 2 refine v_op hT hC rfl rfl rfl rfl trivial ?_
     refine Vc.nil ?_
     injection h with h
     subst h
     refine r_go ?_
     try dsimp only
     apply w_conv hC [(96, 432)]
     ·
      exact co
     ·
      rfl
     ·
      decide
     ·
      rfl
    ·
     refine s_false rfl hb12 ?_
     refine aw_exit ?_
     refine t_exit ?_
     injection h with h
     subst h
     refine r_exit ?_
     refine o_out ?_
     apply w_conv hC []
     ·
      exact co
     ·
      rfl
     ·
      decide
     ·
      rfl
   refine b_norm ?_
   refine t_norm ?_
   refine aw_region ?_
   iterate 2 refine v_op hT hC rfl rfl rfl rfl trivial ?_
   refine Vc.nil ?_
   injection h with h
   subst h
   refine r_go ?_
   try dsimp only
   apply w_conv hC []
   ·
    exact co
   ·
    rfl
   ·
    decide
   ·
    rfl
  ·
   refine s_false rfl hb9 ?_
   refine aw_exit ?_
   refine t_exit ?_
   injection h with h
   subst h
   refine r_exit ?_
   refine o_out ?_
   apply w_conv hC []
   ·
    exact co
   ·
    rfl
   ·
    decide
   ·
    rfl
 refine t_norm ?_
 refine s_reg ?_
 iterate 2 refine v_op hT hC rfl rfl rfl rfl trivial ?_
 refine Vc.nil ?_
 refine aw_ret ?_
 injection h with h
 subst h
 refine ends (τ := ⟨[(2, .own 16)], [(16, some (.ints .i64 v14))]⟩) ?_ rfl ⟨rfl, trivial⟩
 apply w_conv hC [(16, 96)]
 ·
  exact co
 ·
  rfl
 ·
  decide
 ·
  rfl
def impl_copyInts_res (r : (List Int)) : AV := .own 16
def impl_copyInts_obs (r : (List Int)) : Objs := [(16, .ints .i64 r)]
theorem impl_copyInts_ac {p0 : (List Int)} {r : (List Int)} (h : impl_copyInts p0 = some r) : AC Tryz.prog 164 [.sv (.ints .i64 p0)] [] (impl_copyInts_res r) (impl_copyInts_obs r) := by
 refine ac_of_body hT Tryz.func164 rfl fun C hC => ?_
 unfold impl_copyInts at h
 refine s_reg ?_
 refine v_op hT hC rfl rfl rfl rfl trivial ?_
 refine Vc.nil ?_
 refine s_reg ?_
 iterate 2 refine v_op hT hC rfl rfl rfl rfl trivial ?_
 obtain ⟨hq, h⟩ := req_some h
 refine v_op hT hC rfl rfl rfl rfl ⟨trivial, hq⟩ ?_
 refine v_op hT hC rfl rfl rfl rfl trivial ?_
 refine Vc.nil ?_
 refine aw_ret ?_
 injection h with h
 subst h
 refine ends (τ := ⟨[(2, .own 16)], [(16, some (.ints .i64 (([] : List Int) ++ p0)))]⟩) ?_ rfl ⟨rfl, trivial⟩
 apply w_conv hC [(16, 80)]
 ·
  exact co
 ·
  rfl
 ·
  decide
 ·
  rfl
def impl_Four_1_res (r : (Int × Int × Int × Int)) : AV := .agg [.sv (.int .i64 r.1), .sv (.int .i64 r.2.1), .sv (.int .i64 r.2.2.1), .sv (.int .i64 r.2.2.2)]
def impl_Four_1_obs (r : (Int × Int × Int × Int)) : Objs := []
theorem impl_Four_1_ac {p0 : Int} {p1 : Int} {p2 : Int} {p3 : Int} {r : (Int × Int × Int × Int)} (h : impl_Four_1 p0 p1 p2 p3 = some r) : AC Tryz.prog 189 [.sv (.int .i64 p0), .sv (.int .i64 p1), .sv (.int .i64 p2), .sv (.int .i64 p3)] [] (impl_Four_1_res r) (impl_Four_1_obs r) := by
 refine ac_of_body hT Tryz.func189 rfl fun C hC => ?_
 unfold impl_Four_1 at h
 refine s_reg ?_
 refine v_op hT hC rfl rfl rfl rfl trivial ?_
 refine Vc.nil ?_
 refine s_reg ?_
 iterate 34 refine v_op hT hC rfl rfl rfl rfl trivial ?_
 refine Vc.nil ?_
 refine aw_ret ?_
 injection h with h
 subst h
 exact ends (Weak.refl _) rfl trivial
def impl_turned_impl_Four_1_res (r : (List Int)) : AV := .own 16
def impl_turned_impl_Four_1_obs (r : (List Int)) : Objs := [(16, .ints .i64 r)]
theorem impl_turned_impl_Four_1_ac {p0 : (List Int)} {r : (List Int)} (h : impl_turned_impl_Four_1 p0 = some r) : AC Tryz.prog 188 [.sv (.ints .i64 p0), .fn 189 []] [] (impl_turned_impl_Four_1_res r) (impl_turned_impl_Four_1_obs r) := by
 refine ac_of_body hT Tryz.func188 rfl fun C hC => ?_
 unfold impl_turned_impl_Four_1 at h
 refine s_reg ?_
 refine v_op hT hC rfl rfl rfl rfl trivial ?_
 refine Vc.nil ?_
 refine s_reg ?_
 refine v_op hT hC rfl rfl rfl rfl trivial ?_
 obtain ⟨q1, hq, h⟩ := bnd_some h
 refine v_call hC [(16, 208)] rfl rfl rfl rfl Tryz.call164 (impl_copyInts_ac hq) rfl (by decide) trivial rfl (.inl rfl) rfl ?_
 refine v_op hT hC rfl rfl rfl rfl trivial ?_
 refine Vc.nil ?_
 refine s_in ?_
 refine s_reg ?_
 refine v_op hT hC rfl rfl rfl rfl trivial ?_
 refine Vc.nil ?_
 refine live [1, 5, 6] [208] (s' := [_, _, _]) (o' := [_]) rfl rfl ?_
 obtain ⟨v7, hl, h⟩ := bnd_some h
 refine s_loop (fun v4 => ([(6, .sv (.int .i64 v4.1))], [(208, some (.ints .i64 v4.2))])) (fun v7 => ([(6, .any)], [(208, some (.ints .i64 v7))])) hl ?_ ?_ ?_
 ·
  try dsimp only
  apply w_conv hC []
  ·
   exact co
  ·
   rfl
  ·
   decide
  ·
   rfl
 ·
  intro v4 s hs
  have h := hs
  unfold impl_turned_impl_Four_1_l2 at h
  refine s_in ?_
  refine s_reg ?_
  iterate 2 refine v_op hT hC rfl rfl rfl rfl trivial ?_
  refine Vc.nil ?_
  rcases sel_some h with ⟨hb3, h⟩ | ⟨hb3, h⟩
  ·
   refine s_true rfl hb3 ?_
   refine aw_skip ?_
   refine t_norm ?_
   refine s_in ?_
   refine s_block ?_
   refine s_draw hm ?_
   iterate 3 refine v_op hT hC rfl rfl rfl rfl trivial ?_
   obtain ⟨hq, h⟩ := req_some h
   refine v_op hT hC rfl rfl rfl rfl hq ?_
   obtain ⟨hq, h⟩ := req_some h
   refine v_op hT hC rfl rfl rfl rfl hq ?_
   iterate 3 refine v_op hT hC rfl rfl rfl rfl trivial ?_
   obtain ⟨hq, h⟩ := req_some h
   refine v_op hT hC rfl rfl rfl rfl hq ?_
   obtain ⟨hq, h⟩ := req_some h
   refine v_op hT hC rfl rfl rfl rfl hq ?_
   iterate 3 refine v_op hT hC rfl rfl rfl rfl trivial ?_
   obtain ⟨hq, h⟩ := req_some h
   refine v_op hT hC rfl rfl rfl rfl hq ?_
   obtain ⟨hq, h⟩ := req_some h
   refine v_op hT hC rfl rfl rfl rfl hq ?_
   iterate 3 refine v_op hT hC rfl rfl rfl rfl trivial ?_
   obtain ⟨hq, h⟩ := req_some h
   refine v_op hT hC rfl rfl rfl rfl hq ?_
   obtain ⟨hq, h⟩ := req_some h
   refine v_op hT hC rfl rfl rfl rfl hq ?_
   obtain ⟨q8, hq, h⟩ := bnd_some h
   refine v_call hC [] rfl rfl rfl rfl Tryz.call189 (impl_Four_1_ac hq) rfl (by decide) trivial rfl (.inl rfl) rfl ?_
   iterate 2 refine v_op hT hC rfl rfl rfl rfl trivial ?_
   refine Vc.nil ⟨by kernel_rfl, ?_⟩
   refine aw_draw hm ?_
   iterate 4 refine v_op hT hC rfl rfl rfl rfl trivial ?_
   obtain ⟨hq, h⟩ := req_some h
   refine v_op hT hC rfl rfl rfl rfl hq ?_
   refine v_asl hT hC rfl rfl rfl rfl rfl rfl rfl rfl rfl ?_
   obtain ⟨hq, h⟩ := req_some h
   refine v_copy hT hC rfl rfl rfl rfl rfl rfl rfl rfl rfl ⟨⟨trivial, hq.1⟩, hq.2⟩ ?_
   refine Vc.nil ⟨by kernel_rfl, ?_⟩
   refine b_norm ?_
   refine t_norm ?_
   refine aw_region ?_
   iterate 3 refine v_op hT hC rfl rfl rfl rfl trivial ?_
   refine Vc.nil ?_
   injection h with h
   subst h
   refine r_go ?_
   try dsimp only
   apply w_conv hC []
   ·
    exact co
   ·
    rfl
   ·
    decide
   ·
    rfl
  ·
   refine s_false rfl hb3 ?_
   refine aw_exit ?_
   refine t_exit ?_
   injection h with h
   subst h
   refine r_exit ?_
   refine o_out ?_
   apply w_conv hC []
   ·
    exact co
   ·
    rfl
   ·
    decide
   ·
    rfl
 refine t_norm ?_
 refine s_in ?_
 refine s_reg ?_
 refine v_op hT hC rfl rfl rfl rfl trivial ?_
 refine Vc.nil ?_
 refine live [1, 5, 46] [208] (s' := [_, _, _]) (o' := [_]) rfl rfl ?_
 obtain ⟨v25, hl, h⟩ := bnd_some h
 refine s_loop (fun v17 => ([(46, .sv (.int .i64 v17.1))], [(208, some (.ints .i64 v17.2))])) (fun v25 => ([(1, .any), (46, .any)], [(208, some (.ints .i64 v25))])) hl ?_ ?_ ?_
 ·
  try dsimp only
  apply w_conv hC []
  ·
   exact co
  ·
   rfl
  ·
   decide
  ·
   rfl
 ·
  intro v17 s hs
  have h := hs
  unfold impl_turned_impl_Four_1_l14 at h
  refine s_reg ?_
  refine v_op hT hC rfl rfl rfl rfl trivial ?_
  refine Vc.nil ?_
  refine s_in ?_
  rcases sel_some h with ⟨hb12, h⟩ | ⟨hb12, h⟩
  ·
   refine s_true rfl hb12 ?_
   refine aw_skip ?_
   refine t_norm ?_
   refine s_in ?_
   refine s_block ?_
   refine s_reg ?_
   iterate 2 refine v_op hT hC rfl rfl rfl rfl trivial ?_
   refine Vc.nil ?_
   refine s_draw hm ?_
   iterate 3 refine v_op hT hC rfl rfl rfl rfl trivial ?_
   obtain ⟨hq, h⟩ := req_some h
   refine v_op hT hC rfl rfl rfl rfl hq ?_
   obtain ⟨hq, h⟩ := req_some h
   refine v_op hT hC rfl rfl rfl rfl hq ?_
   iterate 3 refine v_op hT hC rfl rfl rfl rfl trivial ?_
   obtain ⟨hq, h⟩ := req_some h
   refine v_op hT hC rfl rfl rfl rfl hq ?_
   obtain ⟨hq, h⟩ := req_some h
   refine v_op hT hC rfl rfl rfl rfl hq ?_
   iterate 3 refine v_op hT hC rfl rfl rfl rfl trivial ?_
   obtain ⟨hq, h⟩ := req_some h
   refine v_op hT hC rfl rfl rfl rfl hq ?_
   obtain ⟨hq, h⟩ := req_some h
   refine v_op hT hC rfl rfl rfl rfl hq ?_
   iterate 3 refine v_op hT hC rfl rfl rfl rfl trivial ?_
   obtain ⟨hq, h⟩ := req_some h
   refine v_op hT hC rfl rfl rfl rfl hq ?_
   obtain ⟨hq, h⟩ := req_some h
   refine v_op hT hC rfl rfl rfl rfl hq ?_
   obtain ⟨q26, hq, h⟩ := bnd_some h
   refine v_call hC [] rfl rfl rfl rfl Tryz.call189 (impl_Four_1_ac hq) rfl (by decide) trivial rfl (.inl rfl) rfl ?_
   iterate 2 refine v_op hT hC rfl rfl rfl rfl trivial ?_
   refine Vc.nil ⟨by kernel_rfl, ?_⟩
   refine s_reg ?_
   iterate 2 refine v_op hT hC rfl rfl rfl rfl trivial ?_
   refine Vc.nil ?_
   refine live [1, 5, 8, 46, 70, 71] [208] (s' := [_, _, _, _, _, _]) (o' := [_]) rfl rfl ?_
   obtain ⟨v30, hl, h⟩ := bnd_some h
   refine s_loop (fun v28 => ([(71, .sv (.int .i64 v28.1))], [(208, some (.ints .i64 v28.2))])) (fun v30 => ([(8, .any), (70, .any), (71, .any)], [(208, some (.ints .i64 v30))])) hl ?_ ?_ ?_
   ·
    try dsimp only
    apply w_conv hC []
    ·
     exact co
    ·
     rfl
    ·
     decide
    ·
     rfl
   ·
    intro v28 s hs
    have h := hs
    unfold impl_turned_impl_Four_1_l16 at h
    refine s_reg ?_
    refine v_op hT hC rfl rfl rfl rfl trivial ?_
    refine Vc.nil ?_
    refine s_in ?_
    rcases sel_some h with ⟨hb15, h⟩ | ⟨hb15, h⟩
    ·
     refine s_true rfl hb15 ?_
     refine aw_skip ?_
     refine t_norm ?_
     refine s_in ?_
     refine s_block ?_
     refine s_reg ?_
     refine v_op hT hC rfl rfl rfl rfl trivial ?_
     obtain ⟨hq, h⟩ := req_some h
     refine v_idx hT hC rfl rfl rfl rfl rfl rfl rfl hq ?_
     iterate 2 refine v_op hT hC rfl rfl rfl rfl trivial ?_
     refine Vc.nil ?_
     refine aw_region ?_
     iterate 6 refine v_op hT hC rfl rfl rfl rfl trivial ?_
     obtain ⟨hq, h⟩ := req_some h
     refine v_op hT hC rfl rfl rfl rfl hq ?_
     obtain ⟨hq, h⟩ := req_some h
     refine v_op hT hC rfl rfl rfl rfl hq ?_
     refine Vc.nil ?_
     refine b_norm ?_
     refine t_norm ?_
     refine aw_region ?_
     iterate 2 refine v_op hT hC rfl rfl rfl rfl trivial ?_
     refine Vc.nil ?_
     injection h with h
     subst h
     refine r_go ?_
     try dsimp only
     apply w_conv hC []
     ·
      exact co
     ·
      rfl
     ·
      decide
     ·
      rfl
    ·
     refine s_false rfl hb15 ?_
     refine aw_exit ?_
     refine t_exit ?_
     injection h with h
     subst h
     refine r_exit ?_
     refine o_out ?_
     apply w_conv hC []
     ·
      exact co
     ·
      rfl
     ·
      decide
     ·
      rfl
   refine b_norm ?_
   refine t_norm ?_
   refine aw_region ?_
   iterate 2 refine v_op hT hC rfl rfl rfl rfl trivial ?_
   refine Vc.nil ?_
   injection h with h
   subst h
   refine r_go ?_
   try dsimp only
   apply w_conv hC []
   ·
    exact co
   ·
    rfl
   ·
    decide
   ·
    rfl
  ·
   refine s_false rfl hb12 ?_
   refine aw_exit ?_
   refine t_exit ?_
   injection h with h
   subst h
   refine r_exit ?_
   refine o_out ?_
   apply w_conv hC []
   ·
    exact co
   ·
    rfl
   ·
    decide
   ·
    rfl
 refine t_norm ?_
 refine s_reg ?_
 iterate 2 refine v_op hT hC rfl rfl rfl rfl trivial ?_
 refine Vc.nil ?_
 refine aw_ret ?_
 injection h with h
 subst h
 refine ends (τ := ⟨[(4, .own 16)], [(16, some (.ints .i64 v25))]⟩) ?_ rfl ⟨rfl, trivial⟩
 apply w_conv hC [(16, 208)]
 ·
  exact co
 ·
  rfl
 ·
  decide
 ·
  rfl
def impl_Four_res (r : (List Int)) : AV := .own 16
def impl_Four_obs (r : (List Int)) : Objs := [(16, .ints .i64 r)]
theorem impl_Four_ac {p0 : (List Int)} {r : (List Int)} (h : impl_Four p0 = some r) : AC Tryz.prog 123 [.sv (.ints .i64 p0)] [] (impl_Four_res r) (impl_Four_obs r) := by
 refine ac_of_body hT Tryz.func123 rfl fun C hC => ?_
 unfold impl_Four at h
 refine s_reg ?_
 refine v_op hT hC rfl rfl rfl rfl trivial ?_
 refine Vc.nil ?_
 refine s_in ?_
 refine s_reg ?_
 refine v_op hT hC rfl rfl rfl rfl trivial ?_
 obtain ⟨q1, hq, h⟩ := bnd_some h
 refine v_call hC [] rfl rfl rfl rfl Tryz.call52 (impl_areIn_ac hq) rfl (by decide) trivial rfl (.inl rfl) rfl ?_
 refine v_op hT hC rfl rfl rfl rfl trivial ?_
 refine Vc.nil ?_
 rcases sel_some h with ⟨hb1, h⟩ | ⟨hb1, h⟩
 ·
  refine s_true rfl hb1 ?_
  refine s_reg ?_
  iterate 2 refine v_op hT hC rfl rfl rfl rfl trivial ?_
  refine Vc.nil ?_
  refine aw_ret ?_
  refine t_ret ?_
  injection h with h
  subst h
  refine ends (τ := ⟨[(2, .own 16)], [(16, some (.ints .i64 ([] : List Int)))]⟩) ?_ rfl ⟨rfl, trivial⟩
  apply w_conv hC [(16, 96)]
  ·
   exact co
  ·
   rfl
  ·
   decide
  ·
   rfl
 ·
  refine s_false rfl hb1 ?_
  refine aw_skip ?_
  refine t_norm ?_
  refine s_reg ?_
  refine v_op hT hC rfl rfl rfl rfl trivial ?_
  obtain ⟨q2, hq, h⟩ := bnd_some h
  refine v_call hC [(16, 128)] rfl rfl rfl rfl Tryz.call188 (impl_turned_impl_Four_1_ac hq) rfl (by decide) trivial rfl (.inl rfl) rfl ?_
  refine v_op hT hC rfl rfl rfl rfl trivial ?_
  refine Vc.nil ?_
  refine aw_ret ?_
  injection h with h
  subst h
  refine ends (τ := ⟨[(2, .own 16)], [(16, some (.ints .i64 q2))]⟩) ?_ rfl ⟨rfl, trivial⟩
  apply w_conv hC [(16, 128)]
  ·
   exact co
  ·
   rfl
  ·
   decide
  ·
   rfl
def impl_KindOf_res (r : Int) : AV := .sv (.int .i64 r)
def impl_KindOf_obs (r : Int) : Objs := []
theorem impl_KindOf_ac {p0 : Int} {r : Int} (h : impl_KindOf p0 = some r) : AC Tryz.prog 232 [.sv (.int .i64 p0)] [] (impl_KindOf_res r) (impl_KindOf_obs r) := by
 refine ac_of_body hT Tryz.func232 rfl fun C hC => ?_
 unfold impl_KindOf at h
 refine s_reg ?_
 refine v_op hT hC rfl rfl rfl rfl trivial ?_
 refine Vc.nil ?_
 refine s_in ?_
 refine s_reg ?_
 refine v_op hT hC rfl rfl rfl rfl trivial ?_
 obtain ⟨q1, hq, h⟩ := bnd_some h
 refine v_call hC [] rfl rfl rfl rfl Tryz.call54 (impl_within_ac hq) rfl (by decide) trivial rfl (.inl rfl) rfl ?_
 refine v_op hT hC rfl rfl rfl rfl trivial ?_
 refine Vc.nil ?_
 rcases sel_some h with ⟨hb1, h⟩ | ⟨hb1, h⟩
 ·
  refine s_true rfl hb1 ?_
  refine s_reg ?_
  refine v_op hT hC rfl rfl rfl rfl trivial ?_
  refine Vc.nil ?_
  refine aw_ret ?_
  refine t_ret ?_
  injection h with h
  subst h
  exact ends (Weak.refl _) rfl trivial
 ·
  refine s_false rfl hb1 ?_
  refine aw_skip ?_
  refine t_norm ?_
  refine s_reg ?_
  refine v_op hT hC rfl rfl rfl rfl trivial ?_
  obtain ⟨hq, h⟩ := req_some h
  refine v_op hT hC rfl rfl rfl rfl hq ?_
  obtain ⟨hq, h⟩ := req_some h
  refine v_op hT hC rfl rfl rfl rfl hq ?_
  refine v_op hT hC rfl rfl rfl rfl trivial ?_
  obtain ⟨hq, h⟩ := req_some h
  refine v_op hT hC rfl rfl rfl rfl hq ?_
  obtain ⟨hq, h⟩ := req_some h
  refine v_op hT hC rfl rfl rfl rfl hq ?_
  iterate 2 refine v_op hT hC rfl rfl rfl rfl trivial ?_
  refine Vc.nil ?_
  refine s_in ?_
  refine s_block ?_
  refine live [3, 4] [] (s' := [_, _]) (o' := []) rfl rfl ?_
  obtain ⟨v2, h1, h⟩ := bnd_some h
  refine aw_to ([(14, .sv (.bool v2))], []) ?_ ?_
  ·
   have h := h1
   refine aw_region ?_
   iterate 3 refine v_op hT hC rfl rfl rfl rfl trivial ?_
   rcases sel_some h with ⟨hb2, h⟩ | ⟨hb2, h⟩
   ·
    iterate 2 refine v_on hT hC rfl rfl rfl rfl hb2 rfl rfl rfl trivial ?_
    refine v_pick hC rfl rfl rfl (b := true) hb2 rfl rfl rfl trivial ?_
    refine v_op hT hC rfl rfl rfl rfl trivial ?_
    refine Vc.nil ?_
    injection h with h
    subst h
    refine m_norm ?_
    apply w_conv hC []
    ·
     exact co
    ·
     rfl
    ·
     decide
    ·
     rfl
   ·
    refine v_off hC rfl rfl rfl rfl hb2 rfl rfl ?_
    refine v_off hC rfl rfl rfl rfl hb2 rfl rfl ?_
    refine v_pick hC rfl rfl rfl (b := false) hb2 rfl rfl rfl trivial ?_
    refine v_op hT hC rfl rfl rfl rfl trivial ?_
    refine Vc.nil ?_
    injection h with h
    subst h
    refine m_norm ?_
    apply w_conv hC []
    ·
     exact co
    ·
     rfl
    ·
     decide
    ·
     rfl
  rcases sel_some h with ⟨hb3, h⟩ | ⟨hb3, h⟩
  ·
   refine s_true rfl hb3 ?_
   refine s_reg ?_
   refine v_op hT hC rfl rfl rfl rfl trivial ?_
   refine Vc.nil ?_
   refine aw_ret ?_
   refine b_ret ?_
   refine t_ret ?_
   injection h with h
   subst h
   exact ends (Weak.refl _) rfl trivial
  ·
   refine s_false rfl hb3 ?_
   refine live [3, 4] [] (s' := [_, _]) (o' := []) rfl rfl ?_
   obtain ⟨v3, h1, h⟩ := bnd_some h
   refine aw_to ([(21, .sv (.bool v3)), (3, .any), (4, .any)], []) ?_ ?_
   ·
    have h := h1
    refine aw_region ?_
    iterate 3 refine v_op hT hC rfl rfl rfl rfl trivial ?_
    rcases sel_some h with ⟨hb4, h⟩ | ⟨hb4, h⟩
    ·
     iterate 2 refine v_on hT hC rfl rfl rfl rfl hb4 rfl rfl rfl trivial ?_
     refine v_pick hC rfl rfl rfl (b := true) hb4 rfl rfl rfl trivial ?_
     refine v_op hT hC rfl rfl rfl rfl trivial ?_
     refine Vc.nil ?_
     injection h with h
     subst h
     refine m_norm ?_
     apply w_conv hC []
     ·
      exact co
     ·
      rfl
     ·
      decide
     ·
      rfl
    ·
     refine v_off hC rfl rfl rfl rfl hb4 rfl rfl ?_
     refine v_off hC rfl rfl rfl rfl hb4 rfl rfl ?_
     refine v_pick hC rfl rfl rfl (b := false) hb4 rfl rfl rfl trivial ?_
     refine v_op hT hC rfl rfl rfl rfl trivial ?_
     refine Vc.nil ?_
     injection h with h
     subst h
     refine m_norm ?_
     apply w_conv hC []
     ·
      exact co
     ·
      rfl
     ·
      decide
     ·
      rfl
   rcases sel_some h with ⟨hb5, h⟩ | ⟨hb5, h⟩
   ·
    refine s_true rfl hb5 ?_
    refine s_reg ?_
    refine v_op hT hC rfl rfl rfl rfl trivial ?_
    refine Vc.nil ?_
    refine aw_ret ?_
    refine b_ret ?_
    refine t_ret ?_
    injection h with h
    subst h
    exact ends (Weak.refl _) rfl trivial
   ·
    refine s_false rfl hb5 ?_
    refine aw_skip ?_
    refine b_norm ?_
    refine t_norm ?_
    refine s_reg ?_
    refine v_op hT hC rfl rfl rfl rfl trivial ?_
    refine Vc.nil ?_
    refine aw_ret ?_
    injection h with h
    subst h
    exact ends (Weak.refl _) rfl trivial
def impl_ShareOf_res (r : Int) : AV := .sv (.int .i64 r)
def impl_ShareOf_obs (r : Int) : Objs := []
theorem impl_ShareOf_ac {p0 : Int} {p1 : Int} {r : Int} (h : impl_ShareOf p0 p1 = some r) : AC Tryz.prog 190 [.sv (.int .i64 p0), .sv (.int .i64 p1)] [] (impl_ShareOf_res r) (impl_ShareOf_obs r) := by
 refine ac_of_body hT Tryz.func190 rfl fun C hC => ?_
 unfold impl_ShareOf at h
 refine s_reg ?_
 refine v_op hT hC rfl rfl rfl rfl trivial ?_
 refine Vc.nil ?_
 refine s_in ?_
 refine live [0, 1] [] (s' := [_, _]) (o' := []) rfl rfl ?_
 obtain ⟨v1, h1, h⟩ := bnd_some h
 refine aw_to ([(13, .sv (.bool v1))], []) ?_ ?_
 ·
  have h := h1
  refine aw_region ?_
  refine v_op hT hC rfl rfl rfl rfl trivial ?_
  obtain ⟨q2, hq, h⟩ := bnd_some h
  refine v_call hC [] rfl rfl rfl rfl Tryz.call54 (impl_within_ac hq) rfl (by decide) trivial rfl (.inl rfl) rfl ?_
  iterate 2 refine v_op hT hC rfl rfl rfl rfl trivial ?_
  rcases sel_some h with ⟨hb1, h⟩ | ⟨hb1, h⟩
  ·
   refine v_on hT hC rfl rfl rfl rfl (congrArg Bool.not hb1) rfl rfl rfl trivial ?_
   obtain ⟨q3, hq, h⟩ := bnd_some h
   refine v_call_on hC [] rfl rfl rfl rfl (congrArg Bool.not hb1) rfl rfl rfl Tryz.call54 (impl_within_ac hq) rfl (by decide) trivial rfl (.inl rfl) rfl ?_
   refine v_on hT hC rfl rfl rfl rfl (congrArg Bool.not hb1) rfl rfl rfl trivial ?_
   refine v_pick hC rfl rfl rfl (b := false) (congrArg Bool.not hb1) rfl rfl rfl trivial ?_
   refine Vc.nil ?_
   injection h with h
   subst h
   refine m_norm ?_
   apply w_conv hC []
   ·
    exact co
   ·
    rfl
   ·
    decide
   ·
    rfl
  ·
   refine v_off hC rfl rfl rfl rfl (congrArg Bool.not hb1) rfl rfl ?_
   refine v_off hC rfl rfl rfl rfl (congrArg Bool.not hb1) rfl rfl ?_
   refine v_off hC rfl rfl rfl rfl (congrArg Bool.not hb1) rfl rfl ?_
   refine v_pick hC rfl rfl rfl (b := true) (congrArg Bool.not hb1) rfl rfl rfl trivial ?_
   refine Vc.nil ?_
   injection h with h
   subst h
   refine m_norm ?_
   apply w_conv hC []
   ·
    exact co
   ·
    rfl
   ·
    decide
   ·
    rfl
 rcases sel_some h with ⟨hb2, h⟩ | ⟨hb2, h⟩
 ·
  refine s_true rfl hb2 ?_
  refine s_reg ?_
  refine v_op hT hC rfl rfl rfl rfl trivial ?_
  refine Vc.nil ?_
  refine aw_ret ?_
  refine t_ret ?_
  injection h with h
  subst h
  exact ends (Weak.refl _) rfl trivial
 ·
  refine s_false rfl hb2 ?_
  refine aw_skip ?_
  refine t_norm ?_
  refine s_reg ?_
  iterate 9 refine v_op hT hC rfl rfl rfl rfl trivial ?_
  refine Vc.nil ?_
  refine s_draw hm ?_
  refine v_op hT hC rfl rfl rfl rfl trivial ?_
  obtain ⟨hq, h⟩ := req_some h
  refine v_op hT hC rfl rfl rfl rfl hq ?_
  refine v_op hT hC rfl rfl rfl rfl trivial ?_
  obtain ⟨q4, hq, h⟩ := bnd_some h
  refine v_call hC [] rfl rfl rfl rfl Tryz.call232 (impl_KindOf_ac hq) rfl (by decide) trivial rfl (.inl rfl) rfl ?_
  obtain ⟨hq, h⟩ := req_some h
  refine v_op hT hC rfl rfl rfl rfl hq ?_
  obtain ⟨hq, h⟩ := req_some h
  refine v_op hT hC rfl rfl rfl rfl hq ?_
  obtain ⟨hq, h⟩ := req_some h
  refine v_tab hT hC rfl rfl rfl rfl rfl rfl hq ?_
  refine v_op hT hC rfl rfl rfl rfl trivial ?_
  refine Vc.nil ⟨by kernel_rfl, ?_⟩
  refine aw_ret ?_
  injection h with h
  subst h
  exact ends (Weak.refl _) rfl trivial
def impl_SmallLevel_res (r : Int) : AV := .sv (.int .i64 r)
def impl_SmallLevel_obs (r : Int) : Objs := []
theorem impl_SmallLevel_ac {p0 : Int} {p1 : Int} {p2 : Int} {r : Int} (h : impl_SmallLevel p0 p1 p2 = some r) : AC Tryz.prog 124 [.sv (.int .i64 p0), .sv (.int .i64 p1), .sv (.int .i64 p2)] [] (impl_SmallLevel_res r) (impl_SmallLevel_obs r) := by
 refine ac_of_body hT Tryz.func124 rfl fun C hC => ?_
 unfold impl_SmallLevel at h
 refine s_reg ?_
 refine v_op hT hC rfl rfl rfl rfl trivial ?_
 refine Vc.nil ?_
 refine s_in ?_
 refine live [0, 1, 2] [] (s' := [_, _, _]) (o' := []) rfl rfl ?_
 obtain ⟨v1, h1, h⟩ := bnd_some h
 refine aw_to ([(20, .sv (.bool v1))], []) ?_ ?_
 ·
  have h := h1
  refine aw_region ?_
  refine v_op hT hC rfl rfl rfl rfl trivial ?_
  obtain ⟨q2, hq, h⟩ := bnd_some h
  refine v_call hC [] rfl rfl rfl rfl Tryz.call54 (impl_within_ac hq) rfl (by decide) trivial rfl (.inl rfl) rfl ?_
  iterate 2 refine v_op hT hC rfl rfl rfl rfl trivial ?_
  rcases sel_some h with ⟨hb1, h⟩ | ⟨hb1, h⟩
  ·
   refine v_on hT hC rfl rfl rfl rfl (congrArg Bool.not hb1) rfl rfl rfl trivial ?_
   obtain ⟨q3, hq, h⟩ := bnd_some h
   refine v_call_on hC [] rfl rfl rfl rfl (congrArg Bool.not hb1) rfl rfl rfl Tryz.call54 (impl_within_ac hq) rfl (by decide) trivial rfl (.inl rfl) rfl ?_
   refine v_on hT hC rfl rfl rfl rfl (congrArg Bool.not hb1) rfl rfl rfl trivial ?_
   refine v_pick hC rfl rfl rfl (b := false) (congrArg Bool.not hb1) rfl rfl rfl trivial ?_
   refine v_op hT hC rfl rfl rfl rfl trivial ?_
   rcases sel_some h with ⟨hb2, h⟩ | ⟨hb2, h⟩
   ·
    refine v_on hT hC rfl rfl rfl rfl (congrArg Bool.not hb2) rfl rfl rfl trivial ?_
    obtain ⟨q4, hq, h⟩ := bnd_some h
    refine v_call_on hC [] rfl rfl rfl rfl (congrArg Bool.not hb2) rfl rfl rfl Tryz.call54 (impl_within_ac hq) rfl (by decide) trivial rfl (.inl rfl) rfl ?_
    refine v_on hT hC rfl rfl rfl rfl (congrArg Bool.not hb2) rfl rfl rfl trivial ?_
    refine v_pick hC rfl rfl rfl (b := false) (congrArg Bool.not hb2) rfl rfl rfl trivial ?_
    refine Vc.nil ?_
    injection h with h
    subst h
    refine m_norm ?_
    apply w_conv hC []
    ·
     exact co
    ·
     rfl
    ·
     decide
    ·
     rfl
   ·
    refine v_off hC rfl rfl rfl rfl (congrArg Bool.not hb2) rfl rfl ?_
    refine v_off hC rfl rfl rfl rfl (congrArg Bool.not hb2) rfl rfl ?_
    refine v_off hC rfl rfl rfl rfl (congrArg Bool.not hb2) rfl rfl ?_
    refine v_pick hC rfl rfl rfl (b := true) (congrArg Bool.not hb2) rfl rfl rfl trivial ?_
    refine Vc.nil ?_
    injection h with h
    subst h
    refine m_norm ?_
    apply w_conv hC []
    ·
     exact co
    ·
     rfl
    ·
     decide
    ·
     rfl
  ·
   refine v_off hC rfl rfl rfl rfl (congrArg Bool.not hb1) rfl rfl ?_
   refine v_off hC rfl rfl rfl rfl (congrArg Bool.not hb1) rfl rfl ?_
   refine v_off hC rfl rfl rfl rfl (congrArg Bool.not hb1) rfl rfl ?_
   refine v_pick hC rfl rfl rfl (b := true) (congrArg Bool.not hb1) rfl rfl rfl trivial ?_
   refine v_op hT hC rfl rfl rfl rfl trivial ?_
   refine v_off hC rfl rfl rfl rfl rfl rfl rfl ?_
   refine v_off hC rfl rfl rfl rfl rfl rfl rfl ?_
   refine v_off hC rfl rfl rfl rfl rfl rfl rfl ?_
   refine v_op hT hC rfl rfl rfl rfl trivial ?_
   refine Vc.nil ?_
   injection h with h
   subst h
   refine m_norm ?_
   apply w_conv hC []
   ·
    exact co
   ·
    rfl
   ·
    decide
   ·
    rfl
 rcases sel_some h with ⟨hb3, h⟩ | ⟨hb3, h⟩
 ·
  refine s_true rfl hb3 ?_
  refine s_reg ?_
  refine v_op hT hC rfl rfl rfl rfl trivial ?_
  refine Vc.nil ?_
  refine aw_ret ?_
  refine t_ret ?_
  injection h with h
  subst h
  exact ends (Weak.refl _) rfl trivial
 ·
  refine s_false rfl hb3 ?_
  refine aw_skip ?_
  refine t_norm ?_
  refine s_reg ?_
  refine v_op hT hC rfl rfl rfl rfl trivial ?_
  obtain ⟨hq, h⟩ := req_some h
  refine v_op hT hC rfl rfl rfl rfl hq ?_
  refine v_op hT hC rfl rfl rfl rfl trivial ?_
  obtain ⟨hq, h⟩ := req_some h
  refine v_op hT hC rfl rfl rfl rfl hq ?_
  refine v_op hT hC rfl rfl rfl rfl trivial ?_
  refine Vc.nil ?_
  refine s_reg ?_
  refine v_op hT hC rfl rfl rfl rfl trivial ?_
  obtain ⟨q5, hq, h⟩ := bnd_some h
  refine v_call hC [] rfl rfl rfl rfl Tryz.call128 (impl_size_ac hq) rfl (by decide) trivial rfl (.inl rfl) rfl ?_
  iterate 2 refine v_op hT hC rfl rfl rfl rfl trivial ?_
  obtain ⟨q6, hq, h⟩ := bnd_some h
  refine v_call hC [] rfl rfl rfl rfl Tryz.call190 (impl_ShareOf_ac hq) rfl (by decide) trivial rfl (.inl rfl) rfl ?_
  iterate 2 refine v_op hT hC rfl rfl rfl rfl trivial ?_
  obtain ⟨hq, h⟩ := req_some h
  refine v_op hT hC rfl rfl rfl rfl hq ?_
  iterate 2 refine v_op hT hC rfl rfl rfl rfl trivial ?_
  obtain ⟨hq, h⟩ := req_some h
  refine v_op hT hC rfl rfl rfl rfl hq ?_
  refine v_op hT hC rfl rfl rfl rfl trivial ?_
  obtain ⟨q7, hq, h⟩ := bnd_some h
  refine v_call hC [] rfl rfl rfl rfl Tryz.call187 (impl_signed_ac hq) rfl (by decide) trivial rfl (.inl rfl) rfl ?_
  refine v_op hT hC rfl rfl rfl rfl trivial ?_
  refine Vc.nil ?_
  refine aw_ret ?_
  injection h with h
  subst h
  exact ends (Weak.refl _) rfl trivial
def impl_LevelsOf_res (r : ((List Int) × Bool)) : AV := .tup [.own 16, .sv (.bool r.2)]
def impl_LevelsOf_obs (r : ((List Int) × Bool)) : Objs := [(16, .ints .i64 r.1)]
theorem impl_LevelsOf_ac {p0 : (List Int)} {p1 : Cond} {r : ((List Int) × Bool)} (h : impl_LevelsOf p0 p1 = some r) : AC Tryz.prog 57 [.sv (.ints .i64 p0), .agg [.sv (.bool p1.Key), .sv (.int .i64 p1.Qp), .sv (.bool p1.Large), .sv (.bool p1.Exact)]] [] (impl_LevelsOf_res r) (impl_LevelsOf_obs r) := by
 refine ac_of_body hT Tryz.func57 rfl fun C hC => ?_
 unfold impl_LevelsOf at h
 refine s_reg ?_
 iterate 3 refine v_op hT hC rfl rfl rfl rfl trivial ?_
 refine Vc.nil ?_
 refine s_in ?_
 refine live [0, 3] [48] (s' := [_, _]) (o' := [_]) rfl rfl ?_
 obtain ⟨v1, h1, h⟩ := bnd_some h
 refine aw_to ([(26, .sv (.bool v1))], []) ?_ ?_
 ·
  have h := h1
  refine aw_region ?_
  refine v_op hT hC rfl rfl rfl rfl trivial ?_
  obtain ⟨q2, hq, h⟩ := bnd_some h
  refine v_call hC [] rfl rfl rfl rfl Tryz.call52 (impl_areIn_ac hq) rfl (by decide) trivial rfl (.inl rfl) rfl ?_
  iterate 2 refine v_op hT hC rfl rfl rfl rfl trivial ?_
  rcases sel_some h with ⟨hb1, h⟩ | ⟨hb1, h⟩
  ·
   refine v_on hT hC rfl rfl rfl rfl (congrArg Bool.not hb1) rfl rfl rfl trivial ?_
   obtain ⟨q3, hq, h⟩ := bnd_some h
   refine v_call_on hC [] rfl rfl rfl rfl (congrArg Bool.not hb1) rfl rfl rfl Tryz.call53 (impl_CondOk_ac hq) rfl (by decide) trivial rfl (.inl rfl) rfl ?_
   refine v_on hT hC rfl rfl rfl rfl (congrArg Bool.not hb1) rfl rfl rfl trivial ?_
   refine v_pick hC rfl rfl rfl (b := false) (congrArg Bool.not hb1) rfl rfl rfl trivial ?_
   refine Vc.nil ?_
   injection h with h
   subst h
   refine m_norm ?_
   apply w_conv hC []
   ·
    exact co
   ·
    rfl
   ·
    decide
   ·
    rfl
  ·
   refine v_off hC rfl rfl rfl rfl (congrArg Bool.not hb1) rfl rfl ?_
   refine v_off hC rfl rfl rfl rfl (congrArg Bool.not hb1) rfl rfl ?_
   refine v_off hC rfl rfl rfl rfl (congrArg Bool.not hb1) rfl rfl ?_
   refine v_pick hC rfl rfl rfl (b := true) (congrArg Bool.not hb1) rfl rfl rfl trivial ?_
   refine Vc.nil ?_
   injection h with h
   subst h
   refine m_norm ?_
   apply w_conv hC []
   ·
    exact co
   ·
    rfl
   ·
    decide
   ·
    rfl
 rcases sel_some h with ⟨hb2, h⟩ | ⟨hb2, h⟩
 ·
  refine s_true rfl hb2 ?_
  refine s_reg ?_
  iterate 3 refine v_op hT hC rfl rfl rfl rfl trivial ?_
  refine Vc.nil ?_
  refine aw_ret ?_
  refine t_ret ?_
  injection h with h
  subst h
  refine ends (τ := ⟨[(4, .own 16), (5, .sv (.bool false))], [(16, some (.ints .i64 ([] : List Int)))]⟩) ?_ rfl ⟨rfl, trivial⟩
  apply w_conv hC [(16, 432)]
  ·
   exact co
  ·
   rfl
  ·
   decide
  ·
   rfl
 ·
  refine s_false rfl hb2 ?_
  refine aw_skip ?_
  refine t_norm ?_
  refine s_in ?_
  refine s_reg ?_
  iterate 2 refine v_op hT hC rfl rfl rfl rfl trivial ?_
  refine Vc.nil ?_
  rcases sel_some h with ⟨hb3, h⟩ | ⟨hb3, h⟩
  ·
   refine s_true rfl hb3 ?_
   refine s_reg ?_
   refine v_op hT hC rfl rfl rfl rfl trivial ?_
   obtain ⟨q4, hq, h⟩ := bnd_some h
   refine v_call hC [(16, 496)] rfl rfl rfl rfl Tryz.call119 (impl_Scanned_ac hq) rfl (by decide) trivial rfl (.inl rfl) rfl ?_
   iterate 4 refine v_op hT hC rfl rfl rfl rfl trivial ?_
   refine Vc.nil ?_
   refine aw_ret ?_
   refine t_ret ?_
   injection h with h
   subst h
   refine ends (τ := ⟨[(4, .own 16), (5, .sv (.bool q4.2))], [(16, some (.ints .i64 q4.1))]⟩) ?_ rfl ⟨rfl, trivial⟩
   apply w_conv hC [(16, 496)]
   ·
    exact co
   ·
    rfl
   ·
    decide
   ·
    rfl
  ·
   refine s_false rfl hb3 ?_
   refine aw_skip ?_
   refine t_norm ?_
   refine s_in ?_
   refine s_reg ?_
   iterate 2 refine v_op hT hC rfl rfl rfl rfl trivial ?_
   refine Vc.nil ?_
   rcases sel_some h with ⟨hb4, h⟩ | ⟨hb4, h⟩
   ·
    refine s_true rfl hb4 ?_
    refine s_reg ?_
    refine v_op hT hC rfl rfl rfl rfl trivial ?_
    obtain ⟨q5, hq, h⟩ := bnd_some h
    refine v_call hC [(16, 592)] rfl rfl rfl rfl Tryz.call120 (impl_Eight_ac hq) rfl (by decide) trivial rfl (.inl rfl) rfl ?_
    refine v_op hT hC rfl rfl rfl rfl trivial ?_
    refine Vc.nil ?_
    refine s_in ?_
    refine s_reg ?_
    iterate 3 refine v_op hT hC rfl rfl rfl rfl trivial ?_
    refine Vc.nil ?_
    refine live [3, 6, 38, 39, 40] [48, 592] (s' := [_, _, _, _, _]) (o' := [_, _]) rfl rfl ?_
    obtain ⟨v11, hl, h⟩ := bnd_some h
    refine s_loop (fun v8 => ([(40, .sv (.int .i64 v8.1))], [(592, some (.ints .i64 v8.2))])) (fun v11 => ([(3, .any), (38, .any), (39, .any), (40, .any)], [(592, some (.ints .i64 v11)), (48, none)])) hl ?_ ?_ ?_
    ·
     try dsimp only
     apply w_conv hC []
     ·
      exact co
     ·
      rfl
     ·
      decide
     ·
      rfl
    ·
     intro v8 s hs
     have h := hs
     unfold impl_LevelsOf_l4 at h
     refine s_reg ?_
     refine v_op hT hC rfl rfl rfl rfl trivial ?_
     refine Vc.nil ?_
     refine s_in ?_
     rcases sel_some h with ⟨hb7, h⟩ | ⟨hb7, h⟩
     ·
      refine s_true rfl hb7 ?_
      refine aw_skip ?_
      refine t_norm ?_
      refine s_in ?_
      refine s_block ?_
      refine s_reg ?_
      refine v_op hT hC rfl rfl rfl rfl trivial ?_
      obtain ⟨hq, h⟩ := req_some h
      refine v_op hT hC rfl rfl rfl rfl hq ?_
      obtain ⟨hq, h⟩ := req_some h
      refine v_op hT hC rfl rfl rfl rfl hq ?_
      iterate 2 refine v_op hT hC rfl rfl rfl rfl trivial ?_
      refine Vc.nil ?_
      refine aw_region ?_
      iterate 5 refine v_op hT hC rfl rfl rfl rfl trivial ?_
      obtain ⟨q12, hq, h⟩ := bnd_some h
      refine v_call hC [] rfl rfl rfl rfl Tryz.call121 (impl_LargeLevel_ac hq) rfl (by decide) trivial rfl (.inl rfl) rfl ?_
      obtain ⟨hq, h⟩ := req_some h
      refine v_op hT hC rfl rfl rfl rfl hq ?_
      obtain ⟨hq, h⟩ := req_some h
      refine v_op hT hC rfl rfl rfl rfl hq ?_
      refine Vc.nil ?_
      refine b_norm ?_
      refine t_norm ?_
      refine aw_region ?_
      iterate 2 refine v_op hT hC rfl rfl rfl rfl trivial ?_
      refine Vc.nil ?_
      injection h with h
      subst h
      refine r_go ?_
      try dsimp only
      apply w_conv hC []
      ·
       exact co
      ·
       rfl
      ·
       decide
      ·
       rfl
     ·
      refine s_false rfl hb7 ?_
      refine aw_exit ?_
      refine t_exit ?_
      injection h with h
      subst h
      refine r_exit ?_
      refine o_out ?_
      apply w_conv hC []
      ·
       exact co
      ·
       rfl
      ·
       decide
      ·
       rfl
    refine t_norm ?_
    refine s_reg ?_
    refine v_op hT hC rfl rfl rfl rfl trivial ?_
    obtain ⟨q14, hq, h⟩ := bnd_some h
    refine v_call hC [(16, 864)] rfl rfl rfl rfl Tryz.call119 (impl_Scanned_ac hq) rfl (by decide) trivial rfl (.inr ⟨rfl, ⟨trivial, trivial⟩⟩) rfl ?_
    iterate 4 refine v_op hT hC rfl rfl rfl rfl trivial ?_
    refine Vc.nil ?_
    refine aw_ret ?_
    refine t_ret ?_
    injection h with h
    subst h
    refine ends (τ := ⟨[(4, .own 16), (5, .sv (.bool q14.2))], [(16, some (.ints .i64 q14.1))]⟩) ?_ rfl ⟨rfl, trivial⟩
    apply w_conv hC [(16, 864)]
    ·
     exact co
    ·
     rfl
    ·
     decide
    ·
     rfl
   ·
    refine s_false rfl hb4 ?_
    refine aw_skip ?_
    refine t_norm ?_
    refine s_reg ?_
    iterate 2 refine v_op hT hC rfl rfl rfl rfl trivial ?_
    refine Vc.nil ?_
    refine s_in ?_
    refine s_reg ?_
    refine v_op hT hC rfl rfl rfl rfl trivial ?_
    refine Vc.nil ?_
    refine live [0, 3, 9, 58] [48, 912] (s' := [_, _, _, _]) (o' := [_, _]) rfl rfl ?_
    obtain ⟨v50, hl, h⟩ := bnd_some h
    refine s_loop (fun v32 => ([(58, .sv (.int .i64 v32.1))], [(912, some (.ints .i64 v32.2))])) (fun v50 => ([(0, .any), (3, .any), (58, .any)], [(912, some (.ints .i64 v50)), (48, none)])) hl ?_ ?_ ?_
    ·
     try dsimp only
     apply w_conv hC []
     ·
      exact co
     ·
      rfl
     ·
      decide
     ·
      rfl
    ·
     intro v32 s hs
     have h := hs
     unfold impl_LevelsOf_l46 at h
     refine s_reg ?_
     refine v_op hT hC rfl rfl rfl rfl trivial ?_
     refine Vc.nil ?_
     refine s_in ?_
     rcases sel_some h with ⟨hb22, h⟩ | ⟨hb22, h⟩
     ·
      refine s_true rfl hb22 ?_
      refine aw_skip ?_
      refine t_norm ?_
      refine s_in ?_
      refine s_block ?_
      refine s_reg ?_
      iterate 2 refine v_op hT hC rfl rfl rfl rfl trivial ?_
      refine Vc.nil ?_
      refine s_reg ?_
      iterate 2 refine v_op hT hC rfl rfl rfl rfl trivial ?_
      refine Vc.nil ?_
      refine s_in ?_
      refine s_reg ?_
      refine v_op hT hC rfl rfl rfl rfl trivial ?_
      obtain ⟨q51, hq, h⟩ := bnd_some h
      refine v_call hC [(16, 1008)] rfl rfl rfl rfl Tryz.call122 (impl_quarter_ac hq) rfl (by decide) trivial rfl (.inl rfl) rfl ?_
      iterate 2 refine v_op hT hC rfl rfl rfl rfl trivial ?_
      refine Vc.nil ?_
      refine live [0, 3, 9, 11, 58, 63, 64, 65] [48, 912, 976, 1008] (s' := [_, _, _, _, _, _, _, _]) (o' := [_, _, _, _]) rfl rfl ?_
      obtain ⟨v55, hl, h⟩ := bnd_some h
      refine s_loop (fun v53 => ([(65, .sv (.int .i64 v53.1))], [(976, some (.ints .i64 v53.2))])) (fun v55 => ([(63, .any), (64, .any), (65, .any)], [(976, some (.ints .i64 v55)), (1008, none)])) hl ?_ ?_ ?_
      ·
       try dsimp only
       apply w_conv hC []
       ·
        exact co
       ·
        rfl
       ·
        decide
       ·
        rfl
      ·
       intro v53 s hs
       have h := hs
       unfold impl_LevelsOf_l52 at h
       refine s_reg ?_
       refine v_op hT hC rfl rfl rfl rfl trivial ?_
       refine Vc.nil ?_
       refine s_in ?_
       rcases sel_some h with ⟨hb25, h⟩ | ⟨hb25, h⟩
       ·
        refine s_true rfl hb25 ?_
        refine aw_skip ?_
        refine t_norm ?_
        refine s_in ?_
        refine s_block ?_
        refine s_reg ?_
        obtain ⟨hq, h⟩ := req_some h
        refine v_op hT hC rfl rfl rfl rfl hq ?_
        obtain ⟨hq, h⟩ := req_some h
        refine v_op hT hC rfl rfl rfl rfl hq ?_
        refine v_op hT hC rfl rfl rfl rfl trivial ?_
        refine Vc.nil ?_
        refine aw_region ?_
        iterate 3 refine v_op hT hC rfl rfl rfl rfl trivial ?_
        obtain ⟨hq, h⟩ := req_some h
        refine v_op hT hC rfl rfl rfl rfl hq ?_
        iterate 2 refine v_op hT hC rfl rfl rfl rfl trivial ?_
        obtain ⟨hq, h⟩ := req_some h
        refine v_op hT hC rfl rfl rfl rfl ⟨trivial, hq⟩ ?_
        refine v_op hT hC rfl rfl rfl rfl trivial ?_
        refine Vc.nil ?_
        refine b_norm ?_
        refine t_norm ?_
        refine aw_region ?_
        iterate 2 refine v_op hT hC rfl rfl rfl rfl trivial ?_
        refine Vc.nil ?_
        injection h with h
        subst h
        refine r_go ?_
        try dsimp only
        apply w_conv hC [(976, 1200)]
        ·
         exact co
        ·
         rfl
        ·
         decide
        ·
         rfl
       ·
        refine s_false rfl hb25 ?_
        refine aw_exit ?_
        refine t_exit ?_
        injection h with h
        subst h
        refine r_exit ?_
        refine o_out ?_
        apply w_conv hC []
        ·
         exact co
        ·
         rfl
        ·
         decide
        ·
         rfl
      refine t_norm ?_
      refine s_reg ?_
      refine v_op hT hC rfl rfl rfl rfl trivial ?_
      obtain ⟨q57, hq, h⟩ := bnd_some h
      refine v_call hC [(16, 1248)] rfl rfl rfl rfl Tryz.call123 (impl_Four_ac hq) rfl (by decide) trivial rfl (.inr ⟨rfl, ⟨trivial, trivial⟩⟩) rfl ?_
      refine v_op hT hC rfl rfl rfl rfl trivial ?_
      refine Vc.nil ?_
      refine s_in ?_
      refine s_reg ?_
      iterate 3 refine v_op hT hC rfl rfl rfl rfl trivial ?_
      refine Vc.nil ?_
      refine live [0, 3, 9, 14, 58, 79, 80, 81] [48, 912, 1248] (s' := [_, _, _, _, _, _, _, _]) (o' := [_, _, _]) rfl rfl ?_
      obtain ⟨v63, hl, h⟩ := bnd_some h
      refine s_loop (fun v60 => ([(81, .sv (.int .i64 v60.1))], [(1248, some (.ints .i64 v60.2))])) (fun v63 => ([(79, .any), (80, .any), (81, .any)], [(1248, some (.ints .i64 v63))])) hl ?_ ?_ ?_
      ·
       try dsimp only
       apply w_conv hC []
       ·
        exact co
       ·
        rfl
       ·
        decide
       ·
        rfl
      ·
       intro v60 s hs
       have h := hs
       unfold impl_LevelsOf_l54 at h
       refine s_reg ?_
       refine v_op hT hC rfl rfl rfl rfl trivial ?_
       refine Vc.nil ?_
       refine s_in ?_
       rcases sel_some h with ⟨hb28, h⟩ | ⟨hb28, h⟩
       ·
        refine s_true rfl hb28 ?_
        refine aw_skip ?_
        refine t_norm ?_
        refine s_in ?_
        refine s_block ?_
        refine s_reg ?_
        refine v_op hT hC rfl rfl rfl rfl trivial ?_
        obtain ⟨hq, h⟩ := req_some h
        refine v_op hT hC rfl rfl rfl rfl hq ?_
        obtain ⟨hq, h⟩ := req_some h
        refine v_op hT hC rfl rfl rfl rfl hq ?_
        iterate 2 refine v_op hT hC rfl rfl rfl rfl trivial ?_
        refine Vc.nil ?_
        refine aw_region ?_
        iterate 6 refine v_op hT hC rfl rfl rfl rfl trivial ?_
        obtain ⟨q64, hq, h⟩ := bnd_some h
        refine v_call hC [] rfl rfl rfl rfl Tryz.call124 (impl_SmallLevel_ac hq) rfl (by decide) trivial rfl (.inl rfl) rfl ?_
        obtain ⟨hq, h⟩ := req_some h
        refine v_op hT hC rfl rfl rfl rfl hq ?_
        obtain ⟨hq, h⟩ := req_some h
        refine v_op hT hC rfl rfl rfl rfl hq ?_
        refine Vc.nil ?_
        refine b_norm ?_
        refine t_norm ?_
        refine aw_region ?_
        iterate 2 refine v_op hT hC rfl rfl rfl rfl trivial ?_
        refine Vc.nil ?_
        injection h with h
        subst h
        refine r_go ?_
        try dsimp only
        apply w_conv hC []
        ·
         exact co
        ·
         rfl
        ·
         decide
        ·
         rfl
       ·
        refine s_false rfl hb28 ?_
        refine aw_exit ?_
        refine t_exit ?_
        injection h with h
        subst h
        refine r_exit ?_
        refine o_out ?_
        apply w_conv hC []
        ·
         exact co
        ·
         rfl
        ·
         decide
        ·
         rfl
      refine t_norm ?_
      refine s_reg ?_
      refine v_op hT hC rfl rfl rfl rfl trivial ?_
      obtain ⟨q66, hq, h⟩ := bnd_some h
      refine v_call hC [(16, 1552)] rfl rfl rfl rfl Tryz.call119 (impl_Scanned_ac hq) rfl (by decide) trivial rfl (.inr ⟨rfl, ⟨trivial, trivial⟩⟩) rfl ?_
      iterate 5 refine v_op hT hC rfl rfl rfl rfl trivial ?_
      refine Vc.nil ?_
      refine aw_region ?_
      iterate 2 refine v_op hT hC rfl rfl rfl rfl trivial ?_
      obtain ⟨hq, h⟩ := req_some h
      refine v_op hT hC rfl rfl rfl rfl ⟨trivial, hq⟩ ?_
      refine v_op hT hC rfl rfl rfl rfl trivial ?_
      refine Vc.nil ?_
      refine b_norm ?_
      refine t_norm ?_
      refine aw_region ?_
      iterate 2 refine v_op hT hC rfl rfl rfl rfl trivial ?_
      refine Vc.nil ?_
      injection h with h
      subst h
      refine r_go ?_
      try dsimp only
      apply w_conv hC [(912, 1632)]
      ·
       exact co
      ·
       rfl
      ·
       decide
      ·
       rfl
     ·
      refine s_false rfl hb22 ?_
      refine aw_exit ?_
      refine t_exit ?_
      injection h with h
      subst h
      refine r_exit ?_
      refine o_out ?_
      apply w_conv hC []
      ·
       exact co
      ·
       rfl
      ·
       decide
      ·
       rfl
    refine t_norm ?_
    refine s_reg ?_
    iterate 3 refine v_op hT hC rfl rfl rfl rfl trivial ?_
    refine Vc.nil ?_
    refine aw_ret ?_
    injection h with h
    subst h
    refine ends (τ := ⟨[(4, .own 16), (5, .sv (.bool true))], [(16, some (.ints .i64 v50))]⟩) ?_ rfl ⟨rfl, trivial⟩
    apply w_conv hC [(16, 912)]
    ·
     exact co
    ·
     rfl
    ·
     decide
    ·
     rfl
def impl_Pic_block_res (r : (List Int)) : AV := .own 16
def impl_Pic_block_obs (r : (List Int)) : Objs := [(16, .ints .i64 r)]
theorem impl_Pic_block_ac {p0 : Pic} {p1 : Int} {p2 : Int} {r : (List Int)} (h : impl_Pic_block p0 p1 p2 = some r) : AC Tryz.prog 61 [.agg [.sv (.int .i64 p0.Wide), .sv (.int .i64 p0.High), .sv (.str p0.Dots)], .sv (.int .i64 p1), .sv (.int .i64 p2)] [] (impl_Pic_block_res r) (impl_Pic_block_obs r) := by
 refine ac_of_body hT Tryz.func61 rfl fun C hC => ?_
 unfold impl_Pic_block at h
 refine s_reg ?_
 iterate 2 refine v_op hT hC rfl rfl rfl rfl trivial ?_
 refine Vc.nil ?_
 refine s_reg ?_
 obtain ⟨hq, h⟩ := req_some h
 refine v_op hT hC rfl rfl rfl rfl ⟨hq.1, hq.2.1, hq.2.2, by decide⟩ ?_
 refine v_op hT hC rfl rfl rfl rfl trivial ?_
 refine Vc.nil ?_
 refine s_in ?_
 refine s_reg ?_
 refine v_op hT hC rfl rfl rfl rfl trivial ?_
 refine Vc.nil ?_
 refine live [1, 2, 3, 7, 11] [48, 160] (s' := [_, _, _, _, _]) (o' := [_, _]) rfl rfl ?_
 obtain ⟨v20, hl, h⟩ := bnd_some h
 refine s_loop (fun v10 => ([(11, .sv (.int .i64 v10.1))], [(160, some (.ints .i64 v10.2))])) (fun v20 => ([(1, .any), (2, .any), (3, .any), (11, .any)], [(160, some (.ints .i64 v20)), (48, none)])) hl ?_ ?_ ?_
 ·
  try dsimp only
  apply w_conv hC []
  ·
   exact co
  ·
   rfl
  ·
   decide
  ·
   rfl
 ·
  intro v10 s hs
  have h := hs
  unfold impl_Pic_block_l12 at h
  refine s_reg ?_
  refine v_op hT hC rfl rfl rfl rfl trivial ?_
  refine Vc.nil ?_
  refine s_in ?_
  rcases sel_some h with ⟨hb9, h⟩ | ⟨hb9, h⟩
  ·
   refine s_true rfl hb9 ?_
   refine aw_skip ?_
   refine t_norm ?_
   refine s_in ?_
   refine s_block ?_
   refine s_reg ?_
   iterate 2 refine v_op hT hC rfl rfl rfl rfl trivial ?_
   refine Vc.nil ?_
   refine s_reg ?_
   refine v_op hT hC rfl rfl rfl rfl trivial ?_
   refine Vc.nil ?_
   refine live [1, 2, 3, 7, 8, 11, 14] [48, 160] (s' := [_, _, _, _, _, _, _]) (o' := [_, _]) rfl rfl ?_
   obtain ⟨v26, hl, h⟩ := bnd_some h
   refine s_loop (fun v23 => ([(14, .sv (.int .i64 v23.1))], [(160, some (.ints .i64 v23.2))])) (fun v26 => ([(8, .any), (14, .any)], [(160, some (.ints .i64 v26))])) hl ?_ ?_ ?_
   ·
    try dsimp only
    apply w_conv hC []
    ·
     exact co
    ·
     rfl
    ·
     decide
    ·
     rfl
   ·
    intro v23 s hs
    have h := hs
    unfold impl_Pic_block_l14 at h
    refine s_reg ?_
    refine v_op hT hC rfl rfl rfl rfl trivial ?_
    refine Vc.nil ?_
    refine s_in ?_
    rcases sel_some h with ⟨hb12, h⟩ | ⟨hb12, h⟩
    ·
     refine s_true rfl hb12 ?_
     refine aw_skip ?_
     refine t_norm ?_
     refine s_in ?_
     refine s_block ?_
     refine s_reg ?_
     iterate 2 refine v_op hT hC rfl rfl rfl rfl trivial ?_
     refine Vc.nil ?_
     refine aw_region ?_
     iterate 8 refine v_op hT hC rfl rfl rfl rfl trivial ?_
     obtain ⟨q27, hq, h⟩ := bnd_some h
     refine v_call hC [] rfl rfl rfl rfl Tryz.call116 (impl_Pic_dot_ac hq) rfl (by decide) trivial rfl (.inl rfl) rfl ?_
     refine v_op hT hC rfl rfl rfl rfl trivial ?_
     obtain ⟨hq, h⟩ := req_some h
     refine v_op hT hC rfl rfl rfl rfl ⟨trivial, hq⟩ ?_
     refine v_op hT hC rfl rfl rfl rfl trivial ?_
     refine Vc.nil ?_
     refine b_norm ?_
     refine t_norm ?_
     refine aw_region ?_
     iterate 2 refine v_op hT hC rfl rfl rfl rfl trivial ?_
     refine Vc.nil ?_
     injection h with h
     subst h
     refine r_go ?_
     try dsimp only
     apply w_conv hC [(160, 432)]
     ·
      exact co
     ·
      rfl
     ·
      decide
     ·
      rfl
    ·
     refine s_false rfl hb12 ?_
     refine aw_exit ?_
     refine t_exit ?_
     injection h with h
     subst h
     refine r_exit ?_
     refine o_out ?_
     apply w_conv hC []
     ·
      exact co
     ·
      rfl
     ·
      decide
     ·
      rfl
   refine b_norm ?_
   refine t_norm ?_
   refine aw_region ?_
   iterate 2 refine v_op hT hC rfl rfl rfl rfl trivial ?_
   refine Vc.nil ?_
   injection h with h
   subst h
   refine r_go ?_
   try dsimp only
   apply w_conv hC []
   ·
    exact co
   ·
    rfl
   ·
    decide
   ·
    rfl
  ·
   refine s_false rfl hb9 ?_
   refine aw_exit ?_
   refine t_exit ?_
   injection h with h
   subst h
   refine r_exit ?_
   refine o_out ?_
   apply w_conv hC []
   ·
    exact co
   ·
    rfl
   ·
    decide
   ·
    rfl
 refine t_norm ?_
 refine s_reg ?_
 iterate 2 refine v_op hT hC rfl rfl rfl rfl trivial ?_
 refine Vc.nil ?_
 refine aw_ret ?_
 injection h with h
 subst h
 refine ends (τ := ⟨[(6, .own 16)], [(16, some (.ints .i64 v20))]⟩) ?_ rfl ⟨rfl, trivial⟩
 apply w_conv hC [(16, 160)]
 ·
  exact co
 ·
  rfl
 ·
  decide
 ·
  rfl
def impl_Pic_holds_res (r : Bool) : AV := .sv (.bool r)
def impl_Pic_holds_obs (r : Bool) : Objs := []
theorem impl_Pic_holds_ac {p0 : Pic} {p1 : Rect} {r : Bool} (h : impl_Pic_holds p0 p1 = some r) : AC Tryz.prog 129 [.agg [.sv (.int .i64 p0.Wide), .sv (.int .i64 p0.High), .sv (.str p0.Dots)], .agg [.sv (.int .i64 p1.Left), .sv (.int .i64 p1.Top), .sv (.int .i64 p1.Wide), .sv (.int .i64 p1.High)]] [] (impl_Pic_holds_res r) (impl_Pic_holds_obs r) := by
 refine ac_of_body hT Tryz.func129 rfl fun C hC => ?_
 unfold impl_Pic_holds at h
 refine s_reg ?_
 iterate 3 refine v_op hT hC rfl rfl rfl rfl trivial ?_
 refine Vc.nil ?_
 refine live [2, 3, 4] [32, 48] (s' := [_, _, _]) (o' := [_, _]) rfl rfl ?_
 obtain ⟨v1, h1, h⟩ := bnd_some h
 refine aw_to ([(4, .sv (.bool v1)), (2, .any), (3, .any)], [(32, none), (48, none)]) ?_ ?_
 ·
  have h := h1
  refine aw_region ?_
  iterate 4 refine v_op hT hC rfl rfl rfl rfl trivial ?_
  obtain ⟨q2, hq, h⟩ := bnd_some h
  refine v_call hC [] rfl rfl rfl rfl Tryz.call54 (impl_within_ac hq) rfl (by decide) trivial rfl (.inl rfl) rfl ?_
  refine v_op hT hC rfl rfl rfl rfl trivial ?_
  rcases sel_some h with ⟨hb1, h⟩ | ⟨hb1, h⟩
  ·
   iterate 4 refine v_on hT hC rfl rfl rfl rfl hb1 rfl rfl rfl trivial ?_
   obtain ⟨q3, hq, h⟩ := bnd_some h
   refine v_call_on hC [] rfl rfl rfl rfl hb1 rfl rfl rfl Tryz.call54 (impl_within_ac hq) rfl (by decide) trivial rfl (.inl rfl) rfl ?_
   refine v_pick hC rfl rfl rfl (b := true) hb1 rfl rfl rfl trivial ?_
   refine v_op hT hC rfl rfl rfl rfl trivial ?_
   rcases sel_some h with ⟨hb2, h⟩ | ⟨hb2, h⟩
   ·
    iterate 7 refine v_on hT hC rfl rfl rfl rfl hb2 rfl rfl rfl trivial ?_
    obtain ⟨q4, hq, h⟩ := bnd_some h
    refine v_call_on hC [] rfl rfl rfl rfl hb2 rfl rfl rfl Tryz.call54 (impl_within_ac hq) rfl (by decide) trivial rfl (.inl rfl) rfl ?_
    refine v_pick hC rfl rfl rfl (b := true) hb2 rfl rfl rfl trivial ?_
    refine v_op hT hC rfl rfl rfl rfl trivial ?_
    rcases sel_some h with ⟨hb3, h⟩ | ⟨hb3, h⟩
    ·
     iterate 7 refine v_on hT hC rfl rfl rfl rfl hb3 rfl rfl rfl trivial ?_
     obtain ⟨q5, hq, h⟩ := bnd_some h
     refine v_call_on hC [] rfl rfl rfl rfl hb3 rfl rfl rfl Tryz.call54 (impl_within_ac hq) rfl (by decide) trivial rfl (.inl rfl) rfl ?_
     refine v_pick hC rfl rfl rfl (b := true) hb3 rfl rfl rfl trivial ?_
     refine v_op hT hC rfl rfl rfl rfl trivial ?_
     refine Vc.nil ?_
     injection h with h
     subst h
     refine m_norm ?_
     apply w_conv hC []
     ·
      exact co
     ·
      rfl
     ·
      decide
     ·
      rfl
    ·
     refine v_off hC rfl rfl rfl rfl hb3 rfl rfl ?_
     refine v_off hC rfl rfl rfl rfl hb3 rfl rfl ?_
     refine v_off hC rfl rfl rfl rfl hb3 rfl rfl ?_
     refine v_off hC rfl rfl rfl rfl hb3 rfl rfl ?_
     refine v_off hC rfl rfl rfl rfl hb3 rfl rfl ?_
     refine v_off hC rfl rfl rfl rfl hb3 rfl rfl ?_
     refine v_off hC rfl rfl rfl rfl hb3 rfl rfl ?_
     refine v_off hC rfl rfl rfl rfl hb3 rfl rfl ?_
     refine v_pick hC rfl rfl rfl (b := false) hb3 rfl rfl rfl trivial ?_
     refine v_op hT hC rfl rfl rfl rfl trivial ?_
     refine Vc.nil ?_
     injection h with h
     subst h
     refine m_norm ?_
     apply w_conv hC []
     ·
      exact co
     ·
      rfl
     ·
      decide
     ·
      rfl
   ·
    refine v_off hC rfl rfl rfl rfl hb2 rfl rfl ?_
    refine v_off hC rfl rfl rfl rfl hb2 rfl rfl ?_
    refine v_off hC rfl rfl rfl rfl hb2 rfl rfl ?_
    refine v_off hC rfl rfl rfl rfl hb2 rfl rfl ?_
    refine v_off hC rfl rfl rfl rfl hb2 rfl rfl ?_
    refine v_off hC rfl rfl rfl rfl hb2 rfl rfl ?_
    refine v_off hC rfl rfl rfl rfl hb2 rfl rfl ?_
    refine v_off hC rfl rfl rfl rfl hb2 rfl rfl ?_
    refine v_pick hC rfl rfl rfl (b := false) hb2 rfl rfl rfl trivial ?_
    refine v_op hT hC rfl rfl rfl rfl trivial ?_
    refine v_off hC rfl rfl rfl rfl rfl rfl rfl ?_
    refine v_off hC rfl rfl rfl rfl rfl rfl rfl ?_
    refine v_off hC rfl rfl rfl rfl rfl rfl rfl ?_
    refine v_off hC rfl rfl rfl rfl rfl rfl rfl ?_
    refine v_off hC rfl rfl rfl rfl rfl rfl rfl ?_
    refine v_off hC rfl rfl rfl rfl rfl rfl rfl ?_
    refine v_off hC rfl rfl rfl rfl rfl rfl rfl ?_
    refine v_off hC rfl rfl rfl rfl rfl rfl rfl ?_
    iterate 2 refine v_op hT hC rfl rfl rfl rfl trivial ?_
    refine Vc.nil ?_
    injection h with h
    subst h
    refine m_norm ?_
    apply w_conv hC []
    ·
     exact co
    ·
     rfl
    ·
     decide
    ·
     rfl
  ·
   refine v_off hC rfl rfl rfl rfl hb1 rfl rfl ?_
   refine v_off hC rfl rfl rfl rfl hb1 rfl rfl ?_
   refine v_off hC rfl rfl rfl rfl hb1 rfl rfl ?_
   refine v_off hC rfl rfl rfl rfl hb1 rfl rfl ?_
   refine v_off hC rfl rfl rfl rfl hb1 rfl rfl ?_
   refine v_pick hC rfl rfl rfl (b := false) hb1 rfl rfl rfl trivial ?_
   refine v_op hT hC rfl rfl rfl rfl trivial ?_
   refine v_off hC rfl rfl rfl rfl rfl rfl rfl ?_
   refine v_off hC rfl rfl rfl rfl rfl rfl rfl ?_
   refine v_off hC rfl rfl rfl rfl rfl rfl rfl ?_
   refine v_off hC rfl rfl rfl rfl rfl rfl rfl ?_
   refine v_off hC rfl rfl rfl rfl rfl rfl rfl ?_
   refine v_off hC rfl rfl rfl rfl rfl rfl rfl ?_
   refine v_off hC rfl rfl rfl rfl rfl rfl rfl ?_
   refine v_off hC rfl rfl rfl rfl rfl rfl rfl ?_
   iterate 2 refine v_op hT hC rfl rfl rfl rfl trivial ?_
   refine v_off hC rfl rfl rfl rfl rfl rfl rfl ?_
   refine v_off hC rfl rfl rfl rfl rfl rfl rfl ?_
   refine v_off hC rfl rfl rfl rfl rfl rfl rfl ?_
   refine v_off hC rfl rfl rfl rfl rfl rfl rfl ?_
   refine v_off hC rfl rfl rfl rfl rfl rfl rfl ?_
   refine v_off hC rfl rfl rfl rfl rfl rfl rfl ?_
   refine v_off hC rfl rfl rfl rfl rfl rfl rfl ?_
   refine v_off hC rfl rfl rfl rfl rfl rfl rfl ?_
   iterate 2 refine v_op hT hC rfl rfl rfl rfl trivial ?_
   refine Vc.nil ?_
   injection h with h
   subst h
   refine m_norm ?_
   apply w_conv hC []
   ·
    exact co
   ·
    rfl
   ·
    decide
   ·
    rfl
 refine aw_ret ?_
 injection h with h
 subst h
 exact ends (Weak.refl _) rfl trivial
def impl_FoldSe_res (r : (Int × Bool)) : AV := .tup [.sv (.int .i64 r.1), .sv (.bool r.2)]
def impl_FoldSe_obs (r : (Int × Bool)) : Objs := []
theorem impl_FoldSe_ac {p0 : Int} {r : (Int × Bool)} (h : impl_FoldSe p0 = some r) : AC Tryz.prog 233 [.sv (.int .i64 p0)] [] (impl_FoldSe_res r) (impl_FoldSe_obs r) := by
 refine ac_of_body hT Tryz.func233 rfl fun C hC => ?_
 unfold impl_FoldSe at h
 refine s_reg ?_
 iterate 2 refine v_op hT hC rfl rfl rfl rfl trivial ?_
 refine Vc.nil ?_
 refine s_in ?_
 refine s_block ?_
 refine s_reg ?_
 refine v_op hT hC rfl rfl rfl rfl trivial ?_
 obtain ⟨q1, hq, h⟩ := bnd_some h
 refine v_call hC [] rfl rfl rfl rfl Tryz.call54 (impl_within_ac hq) rfl (by decide) trivial rfl (.inl rfl) rfl ?_
 iterate 2 refine v_op hT hC rfl rfl rfl rfl trivial ?_
 refine Vc.nil ?_
 rcases sel_some h with ⟨hb1, h⟩ | ⟨hb1, h⟩
 ·
  refine s_true rfl hb1 ?_
  refine s_reg ?_
  iterate 2 refine v_op hT hC rfl rfl rfl rfl trivial ?_
  refine Vc.nil ?_
  refine aw_ret ?_
  refine b_ret ?_
  refine t_ret ?_
  injection h with h
  subst h
  exact ends (Weak.refl _) rfl trivial
 ·
  refine s_false rfl hb1 ?_
  refine s_reg ?_
  iterate 3 refine v_op hT hC rfl rfl rfl rfl trivial ?_
  refine Vc.nil ?_
  rcases sel_some h with ⟨hb2, h⟩ | ⟨hb2, h⟩
  ·
   refine s_true rfl hb2 ?_
   refine s_reg ?_
   iterate 5 refine v_op hT hC rfl rfl rfl rfl trivial ?_
   refine Vc.nil ?_
   refine aw_ret ?_
   refine b_ret ?_
   refine t_ret ?_
   injection h with h
   subst h
   exact ends (Weak.refl _) rfl trivial
  ·
   refine s_false rfl hb2 ?_
   refine aw_skip ?_
   refine b_norm ?_
   refine t_norm ?_
   refine s_reg ?_
   iterate 4 refine v_op hT hC rfl rfl rfl rfl trivial ?_
   refine Vc.nil ?_
   refine aw_ret ?_
   injection h with h
   subst h
   exact ends (Weak.refl _) rfl trivial
def impl_SeRow_res (r : (ByteArray × Bool)) : AV := .tup [.sv (.str r.1), .sv (.bool r.2)]
def impl_SeRow_obs (r : (ByteArray × Bool)) : Objs := []
theorem impl_SeRow_ac {p0 : Int} {r : (ByteArray × Bool)} (h : impl_SeRow p0 = some r) : AC Tryz.prog 191 [.sv (.int .i64 p0)] [] (impl_SeRow_res r) (impl_SeRow_obs r) := by
 refine ac_of_body hT Tryz.func191 rfl fun C hC => ?_
 unfold impl_SeRow at h
 refine s_reg ?_
 iterate 2 refine v_op hT hC rfl rfl rfl rfl trivial ?_
 refine Vc.nil ?_
 refine s_reg ?_
 refine v_op hT hC rfl rfl rfl rfl trivial ?_
 obtain ⟨q1, hq, h⟩ := bnd_some h
 refine v_call hC [] rfl rfl rfl rfl Tryz.call233 (impl_FoldSe_ac hq) rfl (by decide) trivial rfl (.inl rfl) rfl ?_
 iterate 5 refine v_op hT hC rfl rfl rfl rfl trivial ?_
 refine Vc.nil ?_
 refine s_in ?_
 refine s_reg ?_
 iterate 2 refine v_op hT hC rfl rfl rfl rfl trivial ?_
 refine Vc.nil ?_
 rcases sel_some h with ⟨hb1, h⟩ | ⟨hb1, h⟩
 ·
  refine s_true rfl hb1 ?_
  refine s_reg ?_
  iterate 2 refine v_op hT hC rfl rfl rfl rfl trivial ?_
  refine Vc.nil ?_
  refine aw_ret ?_
  refine t_ret ?_
  injection h with h
  subst h
  exact ends (Weak.refl _) rfl trivial
 ·
  refine s_false rfl hb1 ?_
  refine aw_skip ?_
  refine t_norm ?_
  refine s_reg ?_
  refine v_op hT hC rfl rfl rfl rfl trivial ?_
  obtain ⟨q2, hq, h⟩ := bnd_some h
  refine v_call hC [] rfl rfl rfl rfl Tryz.call183 (impl_UeRow_ac hq) rfl (by decide) trivial rfl (.inl rfl) rfl ?_
  iterate 4 refine v_op hT hC rfl rfl rfl rfl trivial ?_
  refine Vc.nil ?_
  refine aw_ret ?_
  injection h with h
  subst h
  exact ends (Weak.refl _) rfl trivial
def impl_SeSize_res (r : Int) : AV := .sv (.int .i64 r)
def impl_SeSize_obs (r : Int) : Objs := []
theorem impl_SeSize_ac {p0 : Int} {r : Int} (h : impl_SeSize p0 = some r) : AC Tryz.prog 130 [.sv (.int .i64 p0)] [] (impl_SeSize_res r) (impl_SeSize_obs r) := by
 refine ac_of_body hT Tryz.func130 rfl fun C hC => ?_
 unfold impl_SeSize at h
 refine s_reg ?_
 refine v_op hT hC rfl rfl rfl rfl trivial ?_
 refine Vc.nil ?_
 refine s_reg ?_
 refine v_op hT hC rfl rfl rfl rfl trivial ?_
 obtain ⟨q1, hq, h⟩ := bnd_some h
 refine v_call hC [] rfl rfl rfl rfl Tryz.call191 (impl_SeRow_ac hq) rfl (by decide) trivial rfl (.inl rfl) rfl ?_
 iterate 5 refine v_op hT hC rfl rfl rfl rfl trivial ?_
 refine Vc.nil ?_
 refine s_reg ?_
 iterate 3 refine v_op hT hC rfl rfl rfl rfl trivial ?_
 refine Vc.nil ?_
 refine aw_ret ?_
 injection h with h
 subst h
 exact ends (Weak.refl _) rfl trivial
def impl_BestMove_res (r : (Int × Int × Int)) : AV := .tup [.sv (.int .i64 r.1), .sv (.int .i64 r.2.1), .sv (.int .i64 r.2.2)]
def impl_BestMove_obs (r : (Int × Int × Int)) : Objs := []
theorem impl_BestMove_ac {p0 : Pic} {p1 : (List Int)} {p2 : Int} {p3 : Int} {p4 : Int} {r : (Int × Int × Int)} (h : impl_BestMove p0 p1 p2 p3 p4 = some r) : AC Tryz.prog 62 [.agg [.sv (.int .i64 p0.Wide), .sv (.int .i64 p0.High), .sv (.str p0.Dots)], .sv (.ints .i64 p1), .sv (.int .i64 p2), .sv (.int .i64 p3), .sv (.int .i64 p4)] [] (impl_BestMove_res r) (impl_BestMove_obs r) := by
 refine ac_of_body hT Tryz.func62 rfl fun C hC => ?_
 unfold impl_BestMove at h
 refine s_reg ?_
 iterate 4 refine v_op hT hC rfl rfl rfl rfl trivial ?_
 refine Vc.nil ?_
 refine s_in ?_
 refine live [1, 2, 3, 4, 5] [80] (s' := [_, _, _, _, _]) (o' := [_]) rfl rfl ?_
 obtain ⟨v1, h1, h⟩ := bnd_some h
 refine aw_to ([(38, .sv (.bool v1))], []) ?_ ?_
 ·
  have h := h1
  refine aw_region ?_
  refine v_op hT hC rfl rfl rfl rfl trivial ?_
  obtain ⟨q2, hq, h⟩ := bnd_some h
  refine v_call hC [] rfl rfl rfl rfl Tryz.call50 (impl_PicOk_ac hq) rfl (by decide) trivial rfl (.inl rfl) rfl ?_
  iterate 2 refine v_op hT hC rfl rfl rfl rfl trivial ?_
  rcases sel_some h with ⟨hb1, h⟩ | ⟨hb1, h⟩
  ·
   refine v_on hT hC rfl rfl rfl rfl (congrArg Bool.not hb1) rfl rfl rfl trivial ?_
   obtain ⟨q3, hq, h⟩ := bnd_some h
   refine v_call_on hC [] rfl rfl rfl rfl (congrArg Bool.not hb1) rfl rfl rfl Tryz.call52 (impl_areIn_ac hq) rfl (by decide) trivial rfl (.inl rfl) rfl ?_
   refine v_on hT hC rfl rfl rfl rfl (congrArg Bool.not hb1) rfl rfl rfl trivial ?_
   refine v_pick hC rfl rfl rfl (b := false) (congrArg Bool.not hb1) rfl rfl rfl trivial ?_
   refine v_op hT hC rfl rfl rfl rfl trivial ?_
   rcases sel_some h with ⟨hb2, h⟩ | ⟨hb2, h⟩
   ·
    refine v_on hT hC rfl rfl rfl rfl (congrArg Bool.not hb2) rfl rfl rfl trivial ?_
    obtain ⟨q4, hq, h⟩ := bnd_some h
    refine v_call_on hC [] rfl rfl rfl rfl (congrArg Bool.not hb2) rfl rfl rfl Tryz.call54 (impl_within_ac hq) rfl (by decide) trivial rfl (.inl rfl) rfl ?_
    refine v_on hT hC rfl rfl rfl rfl (congrArg Bool.not hb2) rfl rfl rfl trivial ?_
    refine v_pick hC rfl rfl rfl (b := false) (congrArg Bool.not hb2) rfl rfl rfl trivial ?_
    refine v_op hT hC rfl rfl rfl rfl trivial ?_
    rcases sel_some h with ⟨hb3, h⟩ | ⟨hb3, h⟩
    ·
     iterate 3 refine v_on hT hC rfl rfl rfl rfl (congrArg Bool.not hb3) rfl rfl rfl trivial ?_
     obtain ⟨q5, hq, h⟩ := bnd_some h
     refine v_call_on hC [] rfl rfl rfl rfl (congrArg Bool.not hb3) rfl rfl rfl Tryz.call51 (impl_Pic_isSquare_ac hq) rfl (by decide) trivial rfl (.inl rfl) rfl ?_
     refine v_on hT hC rfl rfl rfl rfl (congrArg Bool.not hb3) rfl rfl rfl trivial ?_
     refine v_pick hC rfl rfl rfl (b := false) (congrArg Bool.not hb3) rfl rfl rfl trivial ?_
     refine Vc.nil ?_
     injection h with h
     subst h
     refine m_norm ?_
     apply w_conv hC []
     ·
      exact co
     ·
      rfl
     ·
      decide
     ·
      rfl
    ·
     refine v_off hC rfl rfl rfl rfl (congrArg Bool.not hb3) rfl rfl ?_
     refine v_off hC rfl rfl rfl rfl (congrArg Bool.not hb3) rfl rfl ?_
     refine v_off hC rfl rfl rfl rfl (congrArg Bool.not hb3) rfl rfl ?_
     refine v_off hC rfl rfl rfl rfl (congrArg Bool.not hb3) rfl rfl ?_
     refine v_off hC rfl rfl rfl rfl (congrArg Bool.not hb3) rfl rfl ?_
     refine v_pick hC rfl rfl rfl (b := true) (congrArg Bool.not hb3) rfl rfl rfl trivial ?_
     refine Vc.nil ?_
     injection h with h
     subst h
     refine m_norm ?_
     apply w_conv hC []
     ·
      exact co
     ·
      rfl
     ·
      decide
     ·
      rfl
   ·
    refine v_off hC rfl rfl rfl rfl (congrArg Bool.not hb2) rfl rfl ?_
    refine v_off hC rfl rfl rfl rfl (congrArg Bool.not hb2) rfl rfl ?_
    refine v_off hC rfl rfl rfl rfl (congrArg Bool.not hb2) rfl rfl ?_
    refine v_pick hC rfl rfl rfl (b := true) (congrArg Bool.not hb2) rfl rfl rfl trivial ?_
    refine v_op hT hC rfl rfl rfl rfl trivial ?_
    refine v_off hC rfl rfl rfl rfl rfl rfl rfl ?_
    refine v_off hC rfl rfl rfl rfl rfl rfl rfl ?_
    refine v_off hC rfl rfl rfl rfl rfl rfl rfl ?_
    refine v_off hC rfl rfl rfl rfl rfl rfl rfl ?_
    refine v_off hC rfl rfl rfl rfl rfl rfl rfl ?_
    refine v_op hT hC rfl rfl rfl rfl trivial ?_
    refine Vc.nil ?_
    injection h with h
    subst h
    refine m_norm ?_
    apply w_conv hC []
    ·
     exact co
    ·
     rfl
    ·
     decide
    ·
     rfl
  ·
   refine v_off hC rfl rfl rfl rfl (congrArg Bool.not hb1) rfl rfl ?_
   refine v_off hC rfl rfl rfl rfl (congrArg Bool.not hb1) rfl rfl ?_
   refine v_off hC rfl rfl rfl rfl (congrArg Bool.not hb1) rfl rfl ?_
   refine v_pick hC rfl rfl rfl (b := true) (congrArg Bool.not hb1) rfl rfl rfl trivial ?_
   refine v_op hT hC rfl rfl rfl rfl trivial ?_
   refine v_off hC rfl rfl rfl rfl rfl rfl rfl ?_
   refine v_off hC rfl rfl rfl rfl rfl rfl rfl ?_
   refine v_off hC rfl rfl rfl rfl rfl rfl rfl ?_
   iterate 2 refine v_op hT hC rfl rfl rfl rfl trivial ?_
   refine v_off hC rfl rfl rfl rfl rfl rfl rfl ?_
   refine v_off hC rfl rfl rfl rfl rfl rfl rfl ?_
   refine v_off hC rfl rfl rfl rfl rfl rfl rfl ?_
   refine v_off hC rfl rfl rfl rfl rfl rfl rfl ?_
   refine v_off hC rfl rfl rfl rfl rfl rfl rfl ?_
   refine v_op hT hC rfl rfl rfl rfl trivial ?_
   refine Vc.nil ?_
   injection h with h
   subst h
   refine m_norm ?_
   apply w_conv hC []
   ·
    exact co
   ·
    rfl
   ·
    decide
   ·
    rfl
 rcases sel_some h with ⟨hb4, h⟩ | ⟨hb4, h⟩
 ·
  refine s_true rfl hb4 ?_
  refine s_reg ?_
  iterate 3 refine v_op hT hC rfl rfl rfl rfl trivial ?_
  refine Vc.nil ?_
  refine aw_ret ?_
  refine t_ret ?_
  injection h with h
  subst h
  exact ends (Weak.refl _) rfl trivial
 ·
  refine s_false rfl hb4 ?_
  refine aw_skip ?_
  refine t_norm ?_
  refine s_reg ?_
  iterate 3 refine v_op hT hC rfl rfl rfl rfl trivial ?_
  refine Vc.nil ?_
  refine s_in ?_
  refine s_reg ?_
  iterate 3 refine v_op hT hC rfl rfl rfl rfl trivial ?_
  refine Vc.nil ?_
  refine live [1, 2, 3, 4, 5, 13, 14, 15, 16] [80] (s' := [_, _, _, _, _, _, _, _, _]) (o' := [_]) rfl rfl ?_
  obtain ⟨v61, hl, h⟩ := bnd_some h
  refine s_loop (fun v33 => ([(13, .sv (.int .i64 v33.1)), (14, .sv (.int .i64 v33.2.1)), (15, .sv (.int .i64 v33.2.2.1)), (16, .sv (.int .i64 v33.2.2.2))], [])) (fun v61 => ([(13, .sv (.int .i64 v61.1)), (14, .sv (.int .i64 v61.2.1)), (15, .sv (.int .i64 v61.2.2)), (1, .any), (2, .any), (3, .any), (4, .any), (5, .any), (16, .any)], [(80, none)])) hl ?_ ?_ ?_
  ·
   try dsimp only
   apply w_conv hC []
   ·
    exact co
   ·
    rfl
   ·
    decide
   ·
    rfl
  ·
   intro v33 s hs
   have h := hs
   unfold impl_BestMove_l12 at h
   refine s_in ?_
   refine s_reg ?_
   iterate 3 refine v_op hT hC rfl rfl rfl rfl trivial ?_
   refine Vc.nil ?_
   rcases sel_some h with ⟨hb31, h⟩ | ⟨hb31, h⟩
   ·
    refine s_true rfl hb31 ?_
    refine aw_skip ?_
    refine t_norm ?_
    refine s_in ?_
    refine s_block ?_
    refine s_reg ?_
    iterate 3 refine v_op hT hC rfl rfl rfl rfl trivial ?_
    refine Vc.nil ?_
    refine live [1, 2, 3, 4, 5, 13, 14, 15, 16, 17] [80] (s' := [_, _, _, _, _, _, _, _, _, _]) (o' := [_]) rfl rfl ?_
    obtain ⟨v79, hl, h⟩ := bnd_some h
    refine s_loop (fun v70 => ([(13, .sv (.int .i64 v70.1)), (14, .sv (.int .i64 v70.2.1)), (15, .sv (.int .i64 v70.2.2.1)), (17, .sv (.int .i64 v70.2.2.2))], [])) (fun v79 => ([(13, .sv (.int .i64 v79.1)), (14, .sv (.int .i64 v79.2.1)), (15, .sv (.int .i64 v79.2.2)), (17, .any)], [])) hl ?_ ?_ ?_
    ·
     try dsimp only
     apply w_conv hC []
     ·
      exact co
     ·
      rfl
     ·
      decide
     ·
      rfl
    ·
     intro v70 s hs
     have h := hs
     unfold impl_BestMove_l14 at h
     refine s_in ?_
     refine s_reg ?_
     iterate 3 refine v_op hT hC rfl rfl rfl rfl trivial ?_
     refine Vc.nil ?_
     rcases sel_some h with ⟨hb40, h⟩ | ⟨hb40, h⟩
     ·
      refine s_true rfl hb40 ?_
      refine aw_skip ?_
      refine t_norm ?_
      refine live [1, 2, 3, 4, 5, 13, 14, 15, 16, 17] [80] (s' := [_, _, _, _, _, _, _, _, _, _]) (o' := [_]) rfl rfl ?_
      obtain ⟨v80, h1, h⟩ := bnd_some h
      refine aw_to ([(13, .sv (.int .i64 v80.1)), (14, .sv (.int .i64 v80.2.1)), (15, .sv (.int .i64 v80.2.2))], []) ?_ ?_
      ·
       have h := h1
       refine s_block ?_
       refine s_in ?_
       refine s_reg ?_
       iterate 8 refine v_op hT hC rfl rfl rfl rfl trivial ?_
       obtain ⟨q81, hq, h⟩ := bnd_some h
       refine v_call hC [] rfl rfl rfl rfl Tryz.call129 (impl_Pic_holds_ac hq) rfl (by decide) trivial rfl (.inl rfl) rfl ?_
       refine v_op hT hC rfl rfl rfl rfl trivial ?_
       refine Vc.nil ?_
       rcases sel_some h with ⟨hb41, h⟩ | ⟨hb41, h⟩
       ·
        refine s_true rfl hb41 ?_
        refine aw_exit ?_
        refine t_exit ?_
        refine b_exit ?_
        injection h with h
        subst h
        refine m_norm ?_
        try dsimp only
        apply w_conv hC []
        ·
         exact co
        ·
         rfl
        ·
         decide
        ·
         rfl
       ·
        refine s_false rfl hb41 ?_
        refine aw_skip ?_
        refine t_norm ?_
        refine s_reg ?_
        iterate 8 refine v_op hT hC rfl rfl rfl rfl trivial ?_
        obtain ⟨q82, hq, h⟩ := bnd_some h
        refine v_call hC [(16, 1136)] rfl rfl rfl rfl Tryz.call61 (impl_Pic_block_ac hq) rfl (by decide) trivial rfl (.inl rfl) rfl ?_
        obtain ⟨q83, hq, h⟩ := bnd_some h
        refine v_call hC [] rfl rfl rfl rfl Tryz.call60 (impl_gap_ac hq) rfl (by decide) trivial rfl (.inr ⟨rfl, trivial⟩) rfl ?_
        refine v_op hT hC rfl rfl rfl rfl trivial ?_
        obtain ⟨q84, hq, h⟩ := bnd_some h
        refine v_call hC [] rfl rfl rfl rfl Tryz.call130 (impl_SeSize_ac hq) rfl (by decide) trivial rfl (.inl rfl) rfl ?_
        iterate 2 refine v_op hT hC rfl rfl rfl rfl trivial ?_
        obtain ⟨q85, hq, h⟩ := bnd_some h
        refine v_call hC [] rfl rfl rfl rfl Tryz.call130 (impl_SeSize_ac hq) rfl (by decide) trivial rfl (.inl rfl) rfl ?_
        iterate 2 refine v_op hT hC rfl rfl rfl rfl trivial ?_
        refine Vc.nil ?_
        refine live [1, 2, 3, 4, 5, 13, 14, 15, 16, 17, 18] [80] (s' := [_, _, _, _, _, _, _, _, _, _, _]) (o' := [_]) rfl rfl ?_
        obtain ⟨v86, h1, h⟩ := bnd_some h
        refine aw_to ([(85, .sv (.bool v86))], []) ?_ ?_
        ·
         have h := h1
         refine aw_region ?_
         iterate 3 refine v_op hT hC rfl rfl rfl rfl trivial ?_
         rcases sel_some h with ⟨hb42, h⟩ | ⟨hb42, h⟩
         ·
          refine v_off hC rfl rfl rfl rfl hb42 rfl rfl ?_
          refine v_off hC rfl rfl rfl rfl hb42 rfl rfl ?_
          refine v_off hC rfl rfl rfl rfl hb42 rfl rfl ?_
          refine v_pick hC rfl rfl rfl (b := true) hb42 rfl rfl rfl trivial ?_
          refine Vc.nil ?_
          injection h with h
          subst h
          refine m_norm ?_
          apply w_conv hC []
          ·
           exact co
          ·
           rfl
          ·
           decide
          ·
           rfl
         ·
          iterate 3 refine v_on hT hC rfl rfl rfl rfl hb42 rfl rfl rfl trivial ?_
          refine v_pick hC rfl rfl rfl (b := false) hb42 rfl rfl rfl trivial ?_
          refine Vc.nil ?_
          injection h with h
          subst h
          refine m_norm ?_
          apply w_conv hC []
          ·
           exact co
          ·
           rfl
          ·
           decide
          ·
           rfl
        rcases sel_some h with ⟨hb43, h⟩ | ⟨hb43, h⟩
        ·
         refine s_true rfl hb43 ?_
         refine aw_region ?_
         iterate 6 refine v_op hT hC rfl rfl rfl rfl trivial ?_
         refine Vc.nil ?_
         refine b_norm ?_
         injection h with h
         subst h
         refine m_norm ?_
         try dsimp only
         apply w_conv hC []
         ·
          exact co
         ·
          rfl
         ·
          decide
         ·
          rfl
        ·
         refine s_false rfl hb43 ?_
         refine aw_skip ?_
         refine b_norm ?_
         injection h with h
         subst h
         refine m_norm ?_
         try dsimp only
         apply w_conv hC []
         ·
          exact co
         ·
          rfl
         ·
          decide
         ·
          rfl
      refine aw_region ?_
      iterate 3 refine v_op hT hC rfl rfl rfl rfl trivial ?_
      refine Vc.nil ?_
      injection h with h
      subst h
      refine r_go ?_
      try dsimp only
      apply w_conv hC []
      ·
       exact co
      ·
       rfl
      ·
       decide
      ·
       rfl
     ·
      refine s_false rfl hb40 ?_
      refine aw_exit ?_
      refine t_exit ?_
      injection h with h
      subst h
      refine r_exit ?_
      refine o_out ?_
      try dsimp only
      apply w_conv hC []
      ·
       exact co
      ·
       rfl
      ·
       decide
      ·
       rfl
    refine b_norm ?_
    refine t_norm ?_
    refine aw_region ?_
    iterate 3 refine v_op hT hC rfl rfl rfl rfl trivial ?_
    refine Vc.nil ?_
    injection h with h
    subst h
    refine r_go ?_
    try dsimp only
    apply w_conv hC []
    ·
     exact co
    ·
     rfl
    ·
     decide
    ·
     rfl
   ·
    refine s_false rfl hb31 ?_
    refine aw_exit ?_
    refine t_exit ?_
    injection h with h
    subst h
    refine r_exit ?_
    refine o_out ?_
    try dsimp only
    apply w_conv hC []
    ·
     exact co
    ·
     rfl
    ·
     decide
    ·
     rfl
  refine t_norm ?_
  refine s_reg ?_
  iterate 6 refine v_op hT hC rfl rfl rfl rfl trivial ?_
  refine Vc.nil ?_
  refine aw_ret ?_
  injection h with h
  subst h
  exact ends (Weak.refl _) rfl trivial
def impl_areLevels_res (r : Bool) : AV := .sv (.bool r)
def impl_areLevels_obs (r : Bool) : Objs := []
theorem impl_areLevels_ac {p0 : (List Int)} {r : Bool} (h : impl_areLevels p0 = some r) : AC Tryz.prog 192 [.sv (.ints .i64 p0)] [] (impl_areLevels_res r) (impl_areLevels_obs r) := by
 refine ac_of_body hT Tryz.func192 rfl fun C hC => ?_
 unfold impl_areLevels at h
 refine s_reg ?_
 refine v_op hT hC rfl rfl rfl rfl trivial ?_
 refine Vc.nil ?_
 refine s_reg ?_
 refine v_op hT hC rfl rfl rfl rfl trivial ?_
 obtain ⟨q1, hq, h⟩ := bnd_some h
 refine v_call hC [] rfl rfl rfl rfl Tryz.call52 (impl_areIn_ac hq) rfl (by decide) trivial rfl (.inl rfl) rfl ?_
 refine v_op hT hC rfl rfl rfl rfl trivial ?_
 refine Vc.nil ?_
 refine aw_ret ?_
 injection h with h
 subst h
 exact ends (Weak.refl _) rfl trivial
end
end Go.Proofs.YtpmljllgnocjkaaGreat.A
