/- Contracts of the functions that the law FnExactSquareFor reaches, part 0: each comes to what its pure function tells. Written by a program of this session. Conditions: as each statement tells. -/
import Derived.Test.YtpmljllgnocjkaaGreatBFnExactSquareFor
namespace Go.Proofs.YtpmljllgnocjkaaGreat.A
open Go Go.Proofs Go.Proofs.YtpmljllgnocjkaaGreatAL Go.RowKit
set_option linter.unusedVariables false
set_option linter.unusedSimpArgs false
set_option maxRecDepth 100000
set_option maxHeartbeats 2000000
noncomputable section
def laws_szPic_res (r : Int) : AV := .sv (.int .i64 r)
def laws_szPic_obs (r : Int) : Objs := []
theorem laws_szPic_ac {p0 : Pic} {p1 : Int} {r : Int} (h : laws_szPic p0 p1 = some r) : AC Tryz.prog 7 [.agg [.sv (.int .i64 p0.Wide), .sv (.int .i64 p0.High), .sv (.str p0.Dots)], .sv (.int .i64 p1)] [] (laws_szPic_res r) (laws_szPic_obs r) := by
 refine ac_of_body hT Tryz.func7 rfl fun C hC => ?_
 unfold laws_szPic at h
 refine s_reg ?_
 iterate 2 refine v_op hT hC rfl rfl rfl rfl trivial ?_
 refine Vc.nil ?_
 refine s_reg ?_
 iterate 6 refine v_op hT hC rfl rfl rfl rfl trivial ?_
 refine Vc.nil ?_
 refine s_in ?_
 refine s_reg ?_
 iterate 2 refine v_op hT hC rfl rfl rfl rfl trivial ?_
 refine Vc.nil ?_
 rcases sel_some h with ⟨hb1, h⟩ | ⟨hb1, h⟩
 ·
  refine s_true rfl hb1 ?_
  refine s_reg ?_
  refine v_op hT hC rfl rfl rfl rfl trivial ?_
  refine Vc.nil ?_
  refine aw_ret ?_
  refine t_ret ?_
  injection h with h
  subst h
  exact ends (Weak.refl _) rfl trivial
 ·
  refine s_false rfl hb1 ?_
  refine aw_skip ?_
  refine t_norm ?_
  refine s_reg ?_
  iterate 2 refine v_op hT hC rfl rfl rfl rfl trivial ?_
  refine Vc.nil ?_
  refine aw_ret ?_
  injection h with h
  subst h
  exact ends (Weak.refl _) rfl trivial
def laws_toPic_res (r : Pic) : AV := .agg [.sv (.int .i64 r.Wide), .sv (.int .i64 r.High), .sv (.str r.Dots)]
def laws_toPic_obs (r : Pic) : Objs := []
theorem laws_toPic_ac {p0 : Pic} {r : Pic} (h : laws_toPic p0 = some r) : AC Tryz.prog 9 [.agg [.sv (.int .i64 p0.Wide), .sv (.int .i64 p0.High), .sv (.str p0.Dots)]] [] (laws_toPic_res r) (laws_toPic_obs r) := by
 refine ac_of_body hT Tryz.func9 rfl fun C hC => ?_
 unfold laws_toPic at h
 refine s_reg ?_
 iterate 2 refine v_op hT hC rfl rfl rfl rfl trivial ?_
 refine Vc.nil ?_
 refine s_reg ?_
 refine v_op hT hC rfl rfl rfl rfl trivial ?_
 refine Vc.nil ?_
 refine s_reg ?_
 iterate 4 refine v_op hT hC rfl rfl rfl rfl trivial ?_
 refine Vc.nil ?_
 refine s_reg ?_
 iterate 4 refine v_op hT hC rfl rfl rfl rfl trivial ?_
 refine Vc.nil ?_
 refine s_reg ?_
 iterate 4 refine v_op hT hC rfl rfl rfl rfl trivial ?_
 refine Vc.nil ?_
 refine s_reg ?_
 iterate 2 refine v_op hT hC rfl rfl rfl rfl trivial ?_
 refine Vc.nil ?_
 refine aw_ret ?_
 injection h with h
 subst h
 exact ends (Weak.refl _) rfl trivial
def laws_toIntS_res (r : (List Int)) : AV := .own 16
def laws_toIntS_obs (r : (List Int)) : Objs := [(16, .ints .i64 r)]
theorem laws_toIntS_ac {p0 : (List Int)} {r : (List Int)} (h : laws_toIntS p0 = some r) : AC Tryz.prog 10 [.sv (.ints .i64 p0)] [] (laws_toIntS_res r) (laws_toIntS_obs r) := by
 refine ac_of_body hT Tryz.func10 rfl fun C hC => ?_
 unfold laws_toIntS at h
 refine s_reg ?_
 refine v_op hT hC rfl rfl rfl rfl trivial ?_
 refine Vc.nil ?_
 refine s_reg ?_
 iterate 2 refine v_op hT hC rfl rfl rfl rfl trivial ?_
 obtain ⟨hq, h⟩ := req_some h
 refine v_op hT hC rfl rfl rfl rfl ⟨hq.1, hq.2.1, hq.2.2, by decide⟩ ?_
 refine v_op hT hC rfl rfl rfl rfl trivial ?_
 refine Vc.nil ?_
 refine s_in ?_
 refine s_reg ?_
 refine v_op hT hC rfl rfl rfl rfl trivial ?_
 refine Vc.nil ?_
 refine live [0, 3, 4] [112] (s' := [_, _, _]) (o' := [_]) rfl rfl ?_
 obtain ⟨v4, hl, h⟩ := bnd_some h
 refine s_loop (fun v2 => ([(4, .sv (.int .i64 v2.1))], [(112, some (.ints .i64 v2.2))])) (fun v4 => ([(0, .any), (4, .any)], [(112, some (.ints .i64 v4))])) hl ?_ ?_ ?_
 ·
  try dsimp only
  apply w_conv hC []
  ·
   exact co
  ·
   rfl
  ·
   decide
  ·
   rfl
 ·
  intro v2 s hs
  have h := hs
  unfold laws_toIntS_l2 at h
  refine s_in ?_
  refine s_reg ?_
  iterate 4 refine v_op hT hC rfl rfl rfl rfl trivial ?_
  refine Vc.nil ?_
  rcases sel_some h with ⟨hb3, h⟩ | ⟨hb3, h⟩
  ·
   refine s_true rfl hb3 ?_
   refine aw_skip ?_
   refine t_norm ?_
   refine s_in ?_
   refine s_block ?_
   refine aw_region ?_
   iterate 4 refine v_op hT hC rfl rfl rfl rfl trivial ?_
   obtain ⟨hq, h⟩ := req_some h
   refine v_op hT hC rfl rfl rfl rfl hq ?_
   refine v_op hT hC rfl rfl rfl rfl trivial ?_
   obtain ⟨hq, h⟩ := req_some h
   refine v_op hT hC rfl rfl rfl rfl hq ?_
   obtain ⟨hq, h⟩ := req_some h
   refine v_op hT hC rfl rfl rfl rfl hq ?_
   refine Vc.nil ?_
   refine b_norm ?_
   refine t_norm ?_
   refine aw_region ?_
   iterate 3 refine v_op hT hC rfl rfl rfl rfl trivial ?_
   refine Vc.nil ?_
   injection h with h
   subst h
   refine r_go ?_
   try dsimp only
   apply w_conv hC []
   ·
    exact co
   ·
    rfl
   ·
    decide
   ·
    rfl
  ·
   refine s_false rfl hb3 ?_
   refine aw_exit ?_
   refine t_exit ?_
   injection h with h
   subst h
   refine r_exit ?_
   refine o_out ?_
   apply w_conv hC []
   ·
    exact co
   ·
    rfl
   ·
    decide
   ·
    rfl
 refine t_norm ?_
 refine s_reg ?_
 iterate 2 refine v_op hT hC rfl rfl rfl rfl trivial ?_
 refine Vc.nil ?_
 refine aw_ret ?_
 injection h with h
 subst h
 refine ends (τ := ⟨[(2, .own 16)], [(16, some (.ints .i64 v4))]⟩) ?_ rfl ⟨rfl, trivial⟩
 apply w_conv hC [(16, 112)]
 ·
  exact co
 ·
  rfl
 ·
  decide
 ·
  rfl
def laws_toCond_res (r : Cond) : AV := .agg [.sv (.bool r.Key), .sv (.int .i64 r.Qp), .sv (.bool r.Large), .sv (.bool r.Exact)]
def laws_toCond_obs (r : Cond) : Objs := []
theorem laws_toCond_ac {p0 : Cond} {r : Cond} (h : laws_toCond p0 = some r) : AC Tryz.prog 11 [.agg [.sv (.bool p0.Key), .sv (.int .i64 p0.Qp), .sv (.bool p0.Large), .sv (.bool p0.Exact)]] [] (laws_toCond_res r) (laws_toCond_obs r) := by
 refine ac_of_body hT Tryz.func11 rfl fun C hC => ?_
 unfold laws_toCond at h
 refine s_reg ?_
 iterate 2 refine v_op hT hC rfl rfl rfl rfl trivial ?_
 refine Vc.nil ?_
 refine s_reg ?_
 refine v_op hT hC rfl rfl rfl rfl trivial ?_
 refine Vc.nil ?_
 refine s_reg ?_
 iterate 4 refine v_op hT hC rfl rfl rfl rfl trivial ?_
 refine Vc.nil ?_
 refine s_reg ?_
 iterate 4 refine v_op hT hC rfl rfl rfl rfl trivial ?_
 refine Vc.nil ?_
 refine s_reg ?_
 iterate 4 refine v_op hT hC rfl rfl rfl rfl trivial ?_
 refine Vc.nil ?_
 refine s_reg ?_
 iterate 4 refine v_op hT hC rfl rfl rfl rfl trivial ?_
 refine Vc.nil ?_
 refine s_reg ?_
 iterate 2 refine v_op hT hC rfl rfl rfl rfl trivial ?_
 refine Vc.nil ?_
 refine aw_ret ?_
 injection h with h
 subst h
 exact ends (Weak.refl _) rfl trivial
def spec_l01In_res (r : Bool) : AV := .sv (.bool r)
def spec_l01In_obs (r : Bool) : Objs := []
theorem spec_l01In_ac {p0 : Int} {p1 : Int} {p2 : Int} {r : Bool} (h : spec_l01In p0 p1 p2 = some r) : AC Tryz.prog 46 [.sv (.int .i64 p0), .sv (.int .i64 p1), .sv (.int .i64 p2)] [] (spec_l01In_res r) (spec_l01In_obs r) := by
 refine ac_of_body hT Tryz.func46 rfl fun C hC => ?_
 unfold spec_l01In at h
 refine s_reg ?_
 refine v_op hT hC rfl rfl rfl rfl trivial ?_
 refine Vc.nil ?_
 refine live [0, 1, 2, 6] [] (s' := [_, _, _, _]) (o' := []) rfl rfl ?_
 obtain ⟨v1, h1, h⟩ := bnd_some h
 refine aw_to ([(6, .sv (.bool v1)), (0, .any), (1, .any), (2, .any)], []) ?_ ?_
 ·
  have h := h1
  refine aw_region ?_
  iterate 4 refine v_op hT hC rfl rfl rfl rfl trivial ?_
  rcases sel_some h with ⟨hb1, h⟩ | ⟨hb1, h⟩
  ·
   iterate 3 refine v_on hT hC rfl rfl rfl rfl hb1 rfl rfl rfl trivial ?_
   refine v_pick hC rfl rfl rfl (b := true) hb1 rfl rfl rfl trivial ?_
   refine v_op hT hC rfl rfl rfl rfl trivial ?_
   refine Vc.nil ?_
   injection h with h
   subst h
   refine m_norm ?_
   apply w_conv hC []
   ·
    exact co
   ·
    rfl
   ·
    decide
   ·
    rfl
  ·
   refine v_off hC rfl rfl rfl rfl hb1 rfl rfl ?_
   refine v_off hC rfl rfl rfl rfl hb1 rfl rfl ?_
   refine v_off hC rfl rfl rfl rfl hb1 rfl rfl ?_
   refine v_pick hC rfl rfl rfl (b := false) hb1 rfl rfl rfl trivial ?_
   refine v_op hT hC rfl rfl rfl rfl trivial ?_
   refine Vc.nil ?_
   injection h with h
   subst h
   refine m_norm ?_
   apply w_conv hC []
   ·
    exact co
   ·
    rfl
   ·
    decide
   ·
    rfl
 refine aw_ret ?_
 injection h with h
 subst h
 exact ends (Weak.refl _) rfl trivial
def spec_PicOk_res (r : Bool) : AV := .sv (.bool r)
def spec_PicOk_obs (r : Bool) : Objs := []
theorem spec_PicOk_ac {p0 : Pic} {r : Bool} (h : spec_PicOk p0 = some r) : AC Tryz.prog 64 [.agg [.sv (.int .i64 p0.Wide), .sv (.int .i64 p0.High), .sv (.str p0.Dots)]] [] (spec_PicOk_res r) (spec_PicOk_obs r) := by
 refine ac_of_body hT Tryz.func64 rfl fun C hC => ?_
 unfold spec_PicOk at h
 refine s_reg ?_
 iterate 2 refine v_op hT hC rfl rfl rfl rfl trivial ?_
 refine Vc.nil ?_
 refine live [1, 2] [16] (s' := [_, _]) (o' := [_]) rfl rfl ?_
 obtain ⟨v1, h1, h⟩ := bnd_some h
 refine aw_to ([(2, .sv (.bool v1)), (1, .any)], [(16, none)]) ?_ ?_
 ·
  have h := h1
  refine aw_region ?_
  iterate 2 refine v_op hT hC rfl rfl rfl rfl trivial ?_
  obtain ⟨q2, hq, h⟩ := bnd_some h
  refine v_call hC [] rfl rfl rfl rfl Tryz.call46 (spec_l01In_ac hq) rfl (by decide) trivial rfl (.inl rfl) rfl ?_
  refine v_op hT hC rfl rfl rfl rfl trivial ?_
  rcases sel_some h with ⟨hb1, h⟩ | ⟨hb1, h⟩
  ·
   iterate 2 refine v_on hT hC rfl rfl rfl rfl hb1 rfl rfl rfl trivial ?_
   obtain ⟨q3, hq, h⟩ := bnd_some h
   refine v_call_on hC [] rfl rfl rfl rfl hb1 rfl rfl rfl Tryz.call46 (spec_l01In_ac hq) rfl (by decide) trivial rfl (.inl rfl) rfl ?_
   refine v_pick hC rfl rfl rfl (b := true) hb1 rfl rfl rfl trivial ?_
   refine v_op hT hC rfl rfl rfl rfl trivial ?_
   rcases sel_some h with ⟨hb2, h⟩ | ⟨hb2, h⟩
   ·
    iterate 9 refine v_on hT hC rfl rfl rfl rfl hb2 rfl rfl rfl trivial ?_
    refine v_pick hC rfl rfl rfl (b := true) hb2 rfl rfl rfl trivial ?_
    refine v_op hT hC rfl rfl rfl rfl trivial ?_
    refine Vc.nil ?_
    injection h with h
    subst h
    refine m_norm ?_
    apply w_conv hC []
    ·
     exact co
    ·
     rfl
    ·
     decide
    ·
     rfl
   ·
    refine v_off hC rfl rfl rfl rfl hb2 rfl rfl ?_
    refine v_off hC rfl rfl rfl rfl hb2 rfl rfl ?_
    refine v_off hC rfl rfl rfl rfl hb2 rfl rfl ?_
    refine v_off hC rfl rfl rfl rfl hb2 rfl rfl ?_
    refine v_off hC rfl rfl rfl rfl hb2 rfl rfl ?_
    refine v_off hC rfl rfl rfl rfl hb2 rfl rfl ?_
    refine v_off hC rfl rfl rfl rfl hb2 rfl rfl ?_
    refine v_off hC rfl rfl rfl rfl hb2 rfl rfl ?_
    refine v_off hC rfl rfl rfl rfl hb2 rfl rfl ?_
    refine v_pick hC rfl rfl rfl (b := false) hb2 rfl rfl rfl trivial ?_
    refine v_op hT hC rfl rfl rfl rfl trivial ?_
    refine Vc.nil ?_
    injection h with h
    subst h
    refine m_norm ?_
    apply w_conv hC []
    ·
     exact co
    ·
     rfl
    ·
     decide
    ·
     rfl
  ·
   refine v_off hC rfl rfl rfl rfl hb1 rfl rfl ?_
   refine v_off hC rfl rfl rfl rfl hb1 rfl rfl ?_
   refine v_off hC rfl rfl rfl rfl hb1 rfl rfl ?_
   refine v_pick hC rfl rfl rfl (b := false) hb1 rfl rfl rfl trivial ?_
   refine v_op hT hC rfl rfl rfl rfl trivial ?_
   refine v_off hC rfl rfl rfl rfl rfl rfl rfl ?_
   refine v_off hC rfl rfl rfl rfl rfl rfl rfl ?_
   refine v_off hC rfl rfl rfl rfl rfl rfl rfl ?_
   refine v_off hC rfl rfl rfl rfl rfl rfl rfl ?_
   refine v_off hC rfl rfl rfl rfl rfl rfl rfl ?_
   refine v_off hC rfl rfl rfl rfl rfl rfl rfl ?_
   refine v_off hC rfl rfl rfl rfl rfl rfl rfl ?_
   refine v_off hC rfl rfl rfl rfl rfl rfl rfl ?_
   refine v_off hC rfl rfl rfl rfl rfl rfl rfl ?_
   iterate 2 refine v_op hT hC rfl rfl rfl rfl trivial ?_
   refine Vc.nil ?_
   injection h with h
   subst h
   refine m_norm ?_
   apply w_conv hC []
   ·
    exact co
   ·
    rfl
   ·
    decide
   ·
    rfl
 refine aw_ret ?_
 injection h with h
 subst h
 exact ends (Weak.refl _) rfl trivial
def spec_l12Within_res (r : Bool) : AV := .sv (.bool r)
def spec_l12Within_obs (r : Bool) : Objs := []
theorem spec_l12Within_ac {p0 : Pic} {p1 : Int} {p2 : Int} {p3 : Int} {p4 : Int} {r : Bool} (h : spec_l12Within p0 p1 p2 p3 p4 = some r) : AC Tryz.prog 105 [.agg [.sv (.int .i64 p0.Wide), .sv (.int .i64 p0.High), .sv (.str p0.Dots)], .sv (.int .i64 p1), .sv (.int .i64 p2), .sv (.int .i64 p3), .sv (.int .i64 p4)] [] (spec_l12Within_res r) (spec_l12Within_obs r) := by
 refine ac_of_body hT Tryz.func105 rfl fun C hC => ?_
 unfold spec_l12Within at h
 refine s_reg ?_
 iterate 2 refine v_op hT hC rfl rfl rfl rfl trivial ?_
 refine Vc.nil ?_
 refine live [1, 2, 3, 4, 5, 10] [80] (s' := [_, _, _, _, _, _]) (o' := [_]) rfl rfl ?_
 obtain ⟨v1, h1, h⟩ := bnd_some h
 refine aw_to ([(10, .sv (.bool v1)), (1, .any), (2, .any), (3, .any), (4, .any), (5, .any)], [(80, none)]) ?_ ?_
 ·
  have h := h1
  refine aw_region ?_
  refine v_op hT hC rfl rfl rfl rfl trivial ?_
  obtain ⟨q2, hq, h⟩ := bnd_some h
  refine v_call hC [] rfl rfl rfl rfl Tryz.call64 (spec_PicOk_ac hq) rfl (by decide) trivial rfl (.inl rfl) rfl ?_
  refine v_op hT hC rfl rfl rfl rfl trivial ?_
  rcases sel_some h with ⟨hb1, h⟩ | ⟨hb1, h⟩
  ·
   iterate 3 refine v_on hT hC rfl rfl rfl rfl hb1 rfl rfl rfl trivial ?_
   obtain ⟨q3, hq, h⟩ := bnd_some h
   refine v_call_on hC [] rfl rfl rfl rfl hb1 rfl rfl rfl Tryz.call46 (spec_l01In_ac hq) rfl (by decide) trivial rfl (.inl rfl) rfl ?_
   refine v_pick hC rfl rfl rfl (b := true) hb1 rfl rfl rfl trivial ?_
   refine v_op hT hC rfl rfl rfl rfl trivial ?_
   rcases sel_some h with ⟨hb2, h⟩ | ⟨hb2, h⟩
   ·
    iterate 3 refine v_on hT hC rfl rfl rfl rfl hb2 rfl rfl rfl trivial ?_
    obtain ⟨q4, hq, h⟩ := bnd_some h
    refine v_call_on hC [] rfl rfl rfl rfl hb2 rfl rfl rfl Tryz.call46 (spec_l01In_ac hq) rfl (by decide) trivial rfl (.inl rfl) rfl ?_
    refine v_pick hC rfl rfl rfl (b := true) hb2 rfl rfl rfl trivial ?_
    refine v_op hT hC rfl rfl rfl rfl trivial ?_
    rcases sel_some h with ⟨hb3, h⟩ | ⟨hb3, h⟩
    ·
     iterate 5 refine v_on hT hC rfl rfl rfl rfl hb3 rfl rfl rfl trivial ?_
     obtain ⟨q5, hq, h⟩ := bnd_some h
     refine v_call_on hC [] rfl rfl rfl rfl hb3 rfl rfl rfl Tryz.call46 (spec_l01In_ac hq) rfl (by decide) trivial rfl (.inl rfl) rfl ?_
     refine v_pick hC rfl rfl rfl (b := true) hb3 rfl rfl rfl trivial ?_
     refine v_op hT hC rfl rfl rfl rfl trivial ?_
     rcases sel_some h with ⟨hb4, h⟩ | ⟨hb4, h⟩
     ·
      iterate 5 refine v_on hT hC rfl rfl rfl rfl hb4 rfl rfl rfl trivial ?_
      obtain ⟨q6, hq, h⟩ := bnd_some h
      refine v_call_on hC [] rfl rfl rfl rfl hb4 rfl rfl rfl Tryz.call46 (spec_l01In_ac hq) rfl (by decide) trivial rfl (.inl rfl) rfl ?_
      refine v_pick hC rfl rfl rfl (b := true) hb4 rfl rfl rfl trivial ?_
      refine v_op hT hC rfl rfl rfl rfl trivial ?_
      refine Vc.nil ?_
      injection h with h
      subst h
      refine m_norm ?_
      apply w_conv hC []
      ·
       exact co
      ·
       rfl
      ·
       decide
      ·
       rfl
     ·
      refine v_off hC rfl rfl rfl rfl hb4 rfl rfl ?_
      refine v_off hC rfl rfl rfl rfl hb4 rfl rfl ?_
      refine v_off hC rfl rfl rfl rfl hb4 rfl rfl ?_
      refine v_off hC rfl rfl rfl rfl hb4 rfl rfl ?_
      refine v_off hC rfl rfl rfl rfl hb4 rfl rfl ?_
      refine v_off hC rfl rfl rfl rfl hb4 rfl rfl ?_
      refine v_pick hC rfl rfl rfl (b := false) hb4 rfl rfl rfl trivial ?_
      refine v_op hT hC rfl rfl rfl rfl trivial ?_
      refine Vc.nil ?_
      injection h with h
      subst h
      refine m_norm ?_
      apply w_conv hC []
      ·
       exact co
      ·
       rfl
      ·
       decide
      ·
       rfl
    ·
     refine v_off hC rfl rfl rfl rfl hb3 rfl rfl ?_
     refine v_off hC rfl rfl rfl rfl hb3 rfl rfl ?_
     refine v_off hC rfl rfl rfl rfl hb3 rfl rfl ?_
     refine v_off hC rfl rfl rfl rfl hb3 rfl rfl ?_
     refine v_off hC rfl rfl rfl rfl hb3 rfl rfl ?_
     refine v_off hC rfl rfl rfl rfl hb3 rfl rfl ?_
     refine v_pick hC rfl rfl rfl (b := false) hb3 rfl rfl rfl trivial ?_
     refine v_op hT hC rfl rfl rfl rfl trivial ?_
     refine v_off hC rfl rfl rfl rfl rfl rfl rfl ?_
     refine v_off hC rfl rfl rfl rfl rfl rfl rfl ?_
     refine v_off hC rfl rfl rfl rfl rfl rfl rfl ?_
     refine v_off hC rfl rfl rfl rfl rfl rfl rfl ?_
     refine v_off hC rfl rfl rfl rfl rfl rfl rfl ?_
     refine v_off hC rfl rfl rfl rfl rfl rfl rfl ?_
     iterate 2 refine v_op hT hC rfl rfl rfl rfl trivial ?_
     refine Vc.nil ?_
     injection h with h
     subst h
     refine m_norm ?_
     apply w_conv hC []
     ·
      exact co
     ·
      rfl
     ·
      decide
     ·
      rfl
   ·
    refine v_off hC rfl rfl rfl rfl hb2 rfl rfl ?_
    refine v_off hC rfl rfl rfl rfl hb2 rfl rfl ?_
    refine v_off hC rfl rfl rfl rfl hb2 rfl rfl ?_
    refine v_off hC rfl rfl rfl rfl hb2 rfl rfl ?_
    refine v_pick hC rfl rfl rfl (b := false) hb2 rfl rfl rfl trivial ?_
    refine v_op hT hC rfl rfl rfl rfl trivial ?_
    refine v_off hC rfl rfl rfl rfl rfl rfl rfl ?_
    refine v_off hC rfl rfl rfl rfl rfl rfl rfl ?_
    refine v_off hC rfl rfl rfl rfl rfl rfl rfl ?_
    refine v_off hC rfl rfl rfl rfl rfl rfl rfl ?_
    refine v_off hC rfl rfl rfl rfl rfl rfl rfl ?_
    refine v_off hC rfl rfl rfl rfl rfl rfl rfl ?_
    iterate 2 refine v_op hT hC rfl rfl rfl rfl trivial ?_
    refine v_off hC rfl rfl rfl rfl rfl rfl rfl ?_
    refine v_off hC rfl rfl rfl rfl rfl rfl rfl ?_
    refine v_off hC rfl rfl rfl rfl rfl rfl rfl ?_
    refine v_off hC rfl rfl rfl rfl rfl rfl rfl ?_
    refine v_off hC rfl rfl rfl rfl rfl rfl rfl ?_
    refine v_off hC rfl rfl rfl rfl rfl rfl rfl ?_
    iterate 2 refine v_op hT hC rfl rfl rfl rfl trivial ?_
    refine Vc.nil ?_
    injection h with h
    subst h
    refine m_norm ?_
    apply w_conv hC []
    ·
     exact co
    ·
     rfl
    ·
     decide
    ·
     rfl
  ·
   refine v_off hC rfl rfl rfl rfl hb1 rfl rfl ?_
   refine v_off hC rfl rfl rfl rfl hb1 rfl rfl ?_
   refine v_off hC rfl rfl rfl rfl hb1 rfl rfl ?_
   refine v_off hC rfl rfl rfl rfl hb1 rfl rfl ?_
   refine v_pick hC rfl rfl rfl (b := false) hb1 rfl rfl rfl trivial ?_
   refine v_op hT hC rfl rfl rfl rfl trivial ?_
   refine v_off hC rfl rfl rfl rfl rfl rfl rfl ?_
   refine v_off hC rfl rfl rfl rfl rfl rfl rfl ?_
   refine v_off hC rfl rfl rfl rfl rfl rfl rfl ?_
   refine v_off hC rfl rfl rfl rfl rfl rfl rfl ?_
   iterate 2 refine v_op hT hC rfl rfl rfl rfl trivial ?_
   refine v_off hC rfl rfl rfl rfl rfl rfl rfl ?_
   refine v_off hC rfl rfl rfl rfl rfl rfl rfl ?_
   refine v_off hC rfl rfl rfl rfl rfl rfl rfl ?_
   refine v_off hC rfl rfl rfl rfl rfl rfl rfl ?_
   refine v_off hC rfl rfl rfl rfl rfl rfl rfl ?_
   refine v_off hC rfl rfl rfl rfl rfl rfl rfl ?_
   iterate 2 refine v_op hT hC rfl rfl rfl rfl trivial ?_
   refine v_off hC rfl rfl rfl rfl rfl rfl rfl ?_
   refine v_off hC rfl rfl rfl rfl rfl rfl rfl ?_
   refine v_off hC rfl rfl rfl rfl rfl rfl rfl ?_
   refine v_off hC rfl rfl rfl rfl rfl rfl rfl ?_
   refine v_off hC rfl rfl rfl rfl rfl rfl rfl ?_
   refine v_off hC rfl rfl rfl rfl rfl rfl rfl ?_
   iterate 2 refine v_op hT hC rfl rfl rfl rfl trivial ?_
   refine Vc.nil ?_
   injection h with h
   subst h
   refine m_norm ?_
   apply w_conv hC []
   ·
    exact co
   ·
    rfl
   ·
    decide
   ·
    rfl
 refine aw_ret ?_
 injection h with h
 subst h
 exact ends (Weak.refl _) rfl trivial
def spec_l13Fits_res (r : Bool) : AV := .sv (.bool r)
def spec_l13Fits_obs (r : Bool) : Objs := []
theorem spec_l13Fits_ac {p0 : Pic} {p1 : Int} {p2 : Int} {r : Bool} (h : spec_l13Fits p0 p1 p2 = some r) : AC Tryz.prog 43 [.agg [.sv (.int .i64 p0.Wide), .sv (.int .i64 p0.High), .sv (.str p0.Dots)], .sv (.int .i64 p1), .sv (.int .i64 p2)] [] (spec_l13Fits_res r) (spec_l13Fits_obs r) := by
 refine ac_of_body hT Tryz.func43 rfl fun C hC => ?_
 unfold spec_l13Fits at h
 refine s_reg ?_
 iterate 2 refine v_op hT hC rfl rfl rfl rfl trivial ?_
 refine Vc.nil ?_
 refine live [1, 2, 3, 6] [48] (s' := [_, _, _, _]) (o' := [_]) rfl rfl ?_
 obtain ⟨v1, h1, h⟩ := bnd_some h
 refine aw_to ([(6, .sv (.bool v1)), (1, .any), (2, .any), (3, .any)], [(48, none)]) ?_ ?_
 ·
  have h := h1
  refine aw_region ?_
  refine v_op hT hC rfl rfl rfl rfl trivial ?_
  obtain ⟨hq, h⟩ := req_some h
  refine v_op hT hC rfl rfl rfl rfl hq ?_
  iterate 2 refine v_op hT hC rfl rfl rfl rfl trivial ?_
  rcases sel_some h with ⟨hb1, h⟩ | ⟨hb1, h⟩
  ·
   refine v_on hT hC rfl rfl rfl rfl hb1 rfl rfl rfl trivial ?_
   obtain ⟨hq, h⟩ := req_some h
   refine v_on hT hC rfl rfl rfl rfl hb1 rfl rfl rfl hq ?_
   refine v_on hT hC rfl rfl rfl rfl hb1 rfl rfl rfl trivial ?_
   refine v_pick hC rfl rfl rfl (b := true) hb1 rfl rfl rfl trivial ?_
   refine v_op hT hC rfl rfl rfl rfl trivial ?_
   rcases sel_some h with ⟨hb2, h⟩ | ⟨hb2, h⟩
   ·
    iterate 3 refine v_on hT hC rfl rfl rfl rfl hb2 rfl rfl rfl trivial ?_
    obtain ⟨q2, hq, h⟩ := bnd_some h
    refine v_call_on hC [] rfl rfl rfl rfl hb2 rfl rfl rfl Tryz.call105 (spec_l12Within_ac hq) rfl (by decide) trivial rfl (.inl rfl) rfl ?_
    refine v_pick hC rfl rfl rfl (b := true) hb2 rfl rfl rfl trivial ?_
    refine v_op hT hC rfl rfl rfl rfl trivial ?_
    refine Vc.nil ?_
    injection h with h
    subst h
    refine m_norm ?_
    apply w_conv hC []
    ·
     exact co
    ·
     rfl
    ·
     decide
    ·
     rfl
   ·
    refine v_off hC rfl rfl rfl rfl hb2 rfl rfl ?_
    refine v_off hC rfl rfl rfl rfl hb2 rfl rfl ?_
    refine v_off hC rfl rfl rfl rfl hb2 rfl rfl ?_
    refine v_off hC rfl rfl rfl rfl hb2 rfl rfl ?_
    refine v_pick hC rfl rfl rfl (b := false) hb2 rfl rfl rfl trivial ?_
    refine v_op hT hC rfl rfl rfl rfl trivial ?_
    refine Vc.nil ?_
    injection h with h
    subst h
    refine m_norm ?_
    apply w_conv hC []
    ·
     exact co
    ·
     rfl
    ·
     decide
    ·
     rfl
  ·
   refine v_off hC rfl rfl rfl rfl hb1 rfl rfl ?_
   refine v_off hC rfl rfl rfl rfl hb1 rfl rfl ?_
   refine v_off hC rfl rfl rfl rfl hb1 rfl rfl ?_
   refine v_pick hC rfl rfl rfl (b := false) hb1 rfl rfl rfl trivial ?_
   refine v_op hT hC rfl rfl rfl rfl trivial ?_
   refine v_off hC rfl rfl rfl rfl rfl rfl rfl ?_
   refine v_off hC rfl rfl rfl rfl rfl rfl rfl ?_
   refine v_off hC rfl rfl rfl rfl rfl rfl rfl ?_
   refine v_off hC rfl rfl rfl rfl rfl rfl rfl ?_
   iterate 2 refine v_op hT hC rfl rfl rfl rfl trivial ?_
   refine Vc.nil ?_
   injection h with h
   subst h
   refine m_norm ?_
   apply w_conv hC []
   ·
    exact co
   ·
    rfl
   ·
    decide
   ·
    rfl
 refine aw_ret ?_
 injection h with h
 subst h
 exact ends (Weak.refl _) rfl trivial
def spec_l13Dots_res (r : Bool) : AV := .sv (.bool r)
def spec_l13Dots_obs (r : Bool) : Objs := []
theorem spec_l13Dots_ac {p0 : (List Int)} {r : Bool} (h : spec_l13Dots p0 = some r) : AC Tryz.prog 44 [.sv (.ints .i64 p0)] [] (spec_l13Dots_res r) (spec_l13Dots_obs r) := by
 refine ac_of_body hT Tryz.func44 rfl fun C hC => ?_
 unfold spec_l13Dots at h
 refine s_reg ?_
 refine v_op hT hC rfl rfl rfl rfl trivial ?_
 refine Vc.nil ?_
 refine s_in ?_
 refine s_reg ?_
 iterate 3 refine v_op hT hC rfl rfl rfl rfl trivial ?_
 refine Vc.nil ?_
 rcases sel_some h with ⟨hb1, h⟩ | ⟨hb1, h⟩
 ·
  refine s_true rfl hb1 ?_
  refine s_reg ?_
  refine v_op hT hC rfl rfl rfl rfl trivial ?_
  refine Vc.nil ?_
  refine aw_ret ?_
  refine t_ret ?_
  injection h with h
  subst h
  exact ends (Weak.refl _) rfl trivial
 ·
  refine s_false rfl hb1 ?_
  refine aw_skip ?_
  refine t_norm ?_
  refine s_in ?_
  refine s_reg ?_
  refine v_op hT hC rfl rfl rfl rfl trivial ?_
  refine Vc.nil ?_
  refine live [0, 3] [] (s' := [_, _]) (o' := []) rfl rfl ?_
  obtain ⟨o8, hl, h⟩ := bnd_some h
  refine s_loopR (fun v3 => ([(3, .sv (.int .i64 v3))], [])) (fun v6 => ([(0, .any), (3, .any)], [])) (fun r => EndsA C T Tryz.f44.results.toList (spec_l13Dots_res r) (spec_l13Dots_obs r)) hl ?_ ?_ ?_ ?_
  ·
   apply w_conv hC []
   ·
    exact co
   ·
    rfl
   ·
    decide
   ·
    rfl
  ·
   intro v3 s hs
   have h := hs
   unfold spec_l13Dots_l2 at h
   refine s_in ?_
   refine s_reg ?_
   iterate 2 refine v_op hT hC rfl rfl rfl rfl trivial ?_
   refine Vc.nil ?_
   rcases sel_some h with ⟨hb6, h⟩ | ⟨hb6, h⟩
   ·
    refine s_true rfl hb6 ?_
    refine aw_skip ?_
    refine t_norm ?_
    refine s_in ?_
    refine s_block ?_
    refine s_reg ?_
    iterate 2 refine v_op hT hC rfl rfl rfl rfl trivial ?_
    obtain ⟨hq, h⟩ := req_some h
    refine v_op hT hC rfl rfl rfl rfl hq ?_
    refine v_op hT hC rfl rfl rfl rfl trivial ?_
    obtain ⟨q7, hq, h⟩ := bnd_some h
    refine v_call hC [] rfl rfl rfl rfl Tryz.call46 (spec_l01In_ac hq) rfl (by decide) trivial rfl (.inl rfl) rfl ?_
    refine v_op hT hC rfl rfl rfl rfl trivial ?_
    refine Vc.nil ?_
    rcases sel_some h with ⟨hb7, h⟩ | ⟨hb7, h⟩
    ·
     refine s_true rfl hb7 ?_
     refine s_reg ?_
     refine v_op hT hC rfl rfl rfl rfl trivial ?_
     refine Vc.nil ?_
     refine aw_ret ?_
     refine b_ret ?_
     refine t_ret ?_
     injection h with h
     subst h
     refine r_ret ?_
     refine o_ret ?_
     exact ends (Weak.refl _) rfl trivial
    ·
     refine s_false rfl hb7 ?_
     refine aw_skip ?_
     refine b_norm ?_
     refine t_norm ?_
     refine aw_region ?_
     iterate 3 refine v_op hT hC rfl rfl rfl rfl trivial ?_
     refine Vc.nil ?_
     injection h with h
     subst h
     refine r_go ?_
     apply w_conv hC []
     ·
      exact co
     ·
      rfl
     ·
      decide
     ·
      rfl
   ·
    refine s_false rfl hb6 ?_
    refine aw_exit ?_
    refine t_exit ?_
    injection h with h
    subst h
    refine r_exit ?_
    refine o_both ?_
    apply w_conv hC []
    ·
     exact co
    ·
     rfl
    ·
     decide
    ·
     rfl
  ·
   intro v6 e
   subst e
   refine t_norm ?_
   refine s_reg ?_
   refine v_op hT hC rfl rfl rfl rfl trivial ?_
   refine Vc.nil ?_
   refine aw_ret ?_
   injection h with h
   subst h
   exact ends (Weak.refl _) rfl trivial
  ·
   intro r' σ' e hE
   subst e
   injection h with h
   subst h
   refine t_ret ?_
   exact hE
def spec_CondOk_res (r : Bool) : AV := .sv (.bool r)
def spec_CondOk_obs (r : Bool) : Objs := []
theorem spec_CondOk_ac {p0 : Cond} {r : Bool} (h : spec_CondOk p0 = some r) : AC Tryz.prog 45 [.agg [.sv (.bool p0.Key), .sv (.int .i64 p0.Qp), .sv (.bool p0.Large), .sv (.bool p0.Exact)]] [] (spec_CondOk_res r) (spec_CondOk_obs r) := by
 refine ac_of_body hT Tryz.func45 rfl fun C hC => ?_
 unfold spec_CondOk at h
 refine s_reg ?_
 iterate 2 refine v_op hT hC rfl rfl rfl rfl trivial ?_
 refine Vc.nil ?_
 refine live [1, 2] [16] (s' := [_, _]) (o' := [_]) rfl rfl ?_
 obtain ⟨v1, h1, h⟩ := bnd_some h
 refine aw_to ([(2, .sv (.bool v1)), (1, .any)], [(16, none)]) ?_ ?_
 ·
  have h := h1
  refine aw_region ?_
  iterate 2 refine v_op hT hC rfl rfl rfl rfl trivial ?_
  obtain ⟨q2, hq, h⟩ := bnd_some h
  refine v_call hC [] rfl rfl rfl rfl Tryz.call46 (spec_l01In_ac hq) rfl (by decide) trivial rfl (.inl rfl) rfl ?_
  refine v_op hT hC rfl rfl rfl rfl trivial ?_
  rcases sel_some h with ⟨hb1, h⟩ | ⟨hb1, h⟩
  ·
   iterate 3 refine v_on hT hC rfl rfl rfl rfl hb1 rfl rfl rfl trivial ?_
   rcases sel_some h with ⟨hb2, h⟩ | ⟨hb2, h⟩
   ·
    iterate 2 refine v_on hT hC rfl rfl rfl rfl hb2 rfl rfl rfl trivial ?_
    refine v_pick_on hC rfl rfl rfl rfl hb1 rfl rfl (b := true) hb2 rfl rfl rfl trivial ?_
    refine v_on hT hC rfl rfl rfl rfl hb1 rfl rfl rfl trivial ?_
    refine v_pick hC rfl rfl rfl (b := true) hb1 rfl rfl rfl trivial ?_
    refine v_op hT hC rfl rfl rfl rfl trivial ?_
    refine Vc.nil ?_
    injection h with h
    subst h
    refine m_norm ?_
    apply w_conv hC []
    ·
     exact co
    ·
     rfl
    ·
     decide
    ·
     rfl
   ·
    refine v_off hC rfl rfl rfl rfl hb2 rfl rfl ?_
    refine v_off hC rfl rfl rfl rfl hb2 rfl rfl ?_
    refine v_pick_on hC rfl rfl rfl rfl hb1 rfl rfl (b := false) hb2 rfl rfl rfl trivial ?_
    refine v_on hT hC rfl rfl rfl rfl hb1 rfl rfl rfl trivial ?_
    refine v_pick hC rfl rfl rfl (b := true) hb1 rfl rfl rfl trivial ?_
    refine v_op hT hC rfl rfl rfl rfl trivial ?_
    refine Vc.nil ?_
    injection h with h
    subst h
    refine m_norm ?_
    apply w_conv hC []
    ·
     exact co
    ·
     rfl
    ·
     decide
    ·
     rfl
  ·
   refine v_off hC rfl rfl rfl rfl hb1 rfl rfl ?_
   refine v_off hC rfl rfl rfl rfl hb1 rfl rfl ?_
   refine v_off hC rfl rfl rfl rfl hb1 rfl rfl ?_
   iterate 2 refine v_dead hC rfl rfl rfl rfl rfl rfl ?_
   refine v_off hC rfl rfl rfl rfl hb1 rfl rfl ?_
   refine v_off hC rfl rfl rfl rfl hb1 rfl rfl ?_
   refine v_pick hC rfl rfl rfl (b := false) hb1 rfl rfl rfl trivial ?_
   refine v_op hT hC rfl rfl rfl rfl trivial ?_
   refine Vc.nil ?_
   injection h with h
   subst h
   refine m_norm ?_
   apply w_conv hC []
   ·
    exact co
   ·
    rfl
   ·
    decide
   ·
    rfl
 refine aw_ret ?_
 injection h with h
 subst h
 exact ends (Weak.refl _) rfl trivial
def spec_l17Like_res (r : Bool) : AV := .sv (.bool r)
def spec_l17Like_obs (r : Bool) : Objs := []
theorem spec_l17Like_ac {p0 : Pic} {p1 : Pic} {r : Bool} (h : spec_l17Like p0 p1 = some r) : AC Tryz.prog 47 [.agg [.sv (.int .i64 p0.Wide), .sv (.int .i64 p0.High), .sv (.str p0.Dots)], .agg [.sv (.int .i64 p1.Wide), .sv (.int .i64 p1.High), .sv (.str p1.Dots)]] [] (spec_l17Like_res r) (spec_l17Like_obs r) := by
 refine ac_of_body hT Tryz.func47 rfl fun C hC => ?_
 unfold spec_l17Like at h
 refine s_reg ?_
 iterate 3 refine v_op hT hC rfl rfl rfl rfl trivial ?_
 refine Vc.nil ?_
 refine live [2, 3, 4] [32, 48] (s' := [_, _, _]) (o' := [_, _]) rfl rfl ?_
 obtain ⟨v1, h1, h⟩ := bnd_some h
 refine aw_to ([(4, .sv (.bool v1)), (2, .any), (3, .any)], [(32, none), (48, none)]) ?_ ?_
 ·
  have h := h1
  refine aw_region ?_
  refine v_op hT hC rfl rfl rfl rfl trivial ?_
  obtain ⟨q2, hq, h⟩ := bnd_some h
  refine v_call hC [] rfl rfl rfl rfl Tryz.call64 (spec_PicOk_ac hq) rfl (by decide) trivial rfl (.inl rfl) rfl ?_
  refine v_op hT hC rfl rfl rfl rfl trivial ?_
  rcases sel_some h with ⟨hb1, h⟩ | ⟨hb1, h⟩
  ·
   refine v_on hT hC rfl rfl rfl rfl hb1 rfl rfl rfl trivial ?_
   obtain ⟨q3, hq, h⟩ := bnd_some h
   refine v_call_on hC [] rfl rfl rfl rfl hb1 rfl rfl rfl Tryz.call64 (spec_PicOk_ac hq) rfl (by decide) trivial rfl (.inl rfl) rfl ?_
   refine v_pick hC rfl rfl rfl (b := true) hb1 rfl rfl rfl trivial ?_
   refine v_op hT hC rfl rfl rfl rfl trivial ?_
   rcases sel_some h with ⟨hb2, h⟩ | ⟨hb2, h⟩
   ·
    iterate 5 refine v_on hT hC rfl rfl rfl rfl hb2 rfl rfl rfl trivial ?_
    refine v_pick hC rfl rfl rfl (b := true) hb2 rfl rfl rfl trivial ?_
    refine v_op hT hC rfl rfl rfl rfl trivial ?_
    rcases sel_some h with ⟨hb3, h⟩ | ⟨hb3, h⟩
    ·
     iterate 5 refine v_on hT hC rfl rfl rfl rfl hb3 rfl rfl rfl trivial ?_
     refine v_pick hC rfl rfl rfl (b := true) hb3 rfl rfl rfl trivial ?_
     refine v_op hT hC rfl rfl rfl rfl trivial ?_
     refine Vc.nil ?_
     injection h with h
     subst h
     refine m_norm ?_
     apply w_conv hC []
     ·
      exact co
     ·
      rfl
     ·
      decide
     ·
      rfl
    ·
     refine v_off hC rfl rfl rfl rfl hb3 rfl rfl ?_
     refine v_off hC rfl rfl rfl rfl hb3 rfl rfl ?_
     refine v_off hC rfl rfl rfl rfl hb3 rfl rfl ?_
     refine v_off hC rfl rfl rfl rfl hb3 rfl rfl ?_
     refine v_off hC rfl rfl rfl rfl hb3 rfl rfl ?_
     refine v_pick hC rfl rfl rfl (b := false) hb3 rfl rfl rfl trivial ?_
     refine v_op hT hC rfl rfl rfl rfl trivial ?_
     refine Vc.nil ?_
     injection h with h
     subst h
     refine m_norm ?_
     apply w_conv hC []
     ·
      exact co
     ·
      rfl
     ·
      decide
     ·
      rfl
   ·
    refine v_off hC rfl rfl rfl rfl hb2 rfl rfl ?_
    refine v_off hC rfl rfl rfl rfl hb2 rfl rfl ?_
    refine v_off hC rfl rfl rfl rfl hb2 rfl rfl ?_
    refine v_off hC rfl rfl rfl rfl hb2 rfl rfl ?_
    refine v_off hC rfl rfl rfl rfl hb2 rfl rfl ?_
    refine v_pick hC rfl rfl rfl (b := false) hb2 rfl rfl rfl trivial ?_
    refine v_op hT hC rfl rfl rfl rfl trivial ?_
    refine v_off hC rfl rfl rfl rfl rfl rfl rfl ?_
    refine v_off hC rfl rfl rfl rfl rfl rfl rfl ?_
    refine v_off hC rfl rfl rfl rfl rfl rfl rfl ?_
    refine v_off hC rfl rfl rfl rfl rfl rfl rfl ?_
    refine v_off hC rfl rfl rfl rfl rfl rfl rfl ?_
    iterate 2 refine v_op hT hC rfl rfl rfl rfl trivial ?_
    refine Vc.nil ?_
    injection h with h
    subst h
    refine m_norm ?_
    apply w_conv hC []
    ·
     exact co
    ·
     rfl
    ·
     decide
    ·
     rfl
  ·
   refine v_off hC rfl rfl rfl rfl hb1 rfl rfl ?_
   refine v_off hC rfl rfl rfl rfl hb1 rfl rfl ?_
   refine v_pick hC rfl rfl rfl (b := false) hb1 rfl rfl rfl trivial ?_
   refine v_op hT hC rfl rfl rfl rfl trivial ?_
   refine v_off hC rfl rfl rfl rfl rfl rfl rfl ?_
   refine v_off hC rfl rfl rfl rfl rfl rfl rfl ?_
   refine v_off hC rfl rfl rfl rfl rfl rfl rfl ?_
   refine v_off hC rfl rfl rfl rfl rfl rfl rfl ?_
   refine v_off hC rfl rfl rfl rfl rfl rfl rfl ?_
   iterate 2 refine v_op hT hC rfl rfl rfl rfl trivial ?_
   refine v_off hC rfl rfl rfl rfl rfl rfl rfl ?_
   refine v_off hC rfl rfl rfl rfl rfl rfl rfl ?_
   refine v_off hC rfl rfl rfl rfl rfl rfl rfl ?_
   refine v_off hC rfl rfl rfl rfl rfl rfl rfl ?_
   refine v_off hC rfl rfl rfl rfl rfl rfl rfl ?_
   iterate 2 refine v_op hT hC rfl rfl rfl rfl trivial ?_
   refine Vc.nil ?_
   injection h with h
   subst h
   refine m_norm ?_
   apply w_conv hC []
   ·
    exact co
   ·
    rfl
   ·
    decide
   ·
    rfl
 refine aw_ret ?_
 injection h with h
 subst h
 exact ends (Weak.refl _) rfl trivial
def spec_Brought_res (r : Int) : AV := .sv (.int .i64 r)
def spec_Brought_obs (r : Int) : Objs := []
theorem spec_Brought_ac {p0 : Int} {p1 : Int} {p2 : Int} {r : Int} (h : spec_Brought p0 p1 p2 = some r) : AC Tryz.prog 155 [.sv (.int .i64 p0), .sv (.int .i64 p1), .sv (.int .i64 p2)] [] (spec_Brought_res r) (spec_Brought_obs r) := by
 refine ac_of_body hT Tryz.func155 rfl fun C hC => ?_
 unfold spec_Brought at h
 refine s_reg ?_
 refine v_op hT hC rfl rfl rfl rfl trivial ?_
 refine Vc.nil ?_
 refine s_in ?_
 refine live [0, 1, 2] [] (s' := [_, _, _]) (o' := []) rfl rfl ?_
 obtain ⟨v1, h1, h⟩ := bnd_some h
 refine aw_to ([(14, .sv (.bool v1))], []) ?_ ?_
 ·
  have h := h1
  refine aw_region ?_
  iterate 4 refine v_op hT hC rfl rfl rfl rfl trivial ?_
  rcases sel_some h with ⟨hb1, h⟩ | ⟨hb1, h⟩
  ·
   refine v_off hC rfl rfl rfl rfl hb1 rfl rfl ?_
   refine v_off hC rfl rfl rfl rfl hb1 rfl rfl ?_
   refine v_off hC rfl rfl rfl rfl hb1 rfl rfl ?_
   refine v_pick hC rfl rfl rfl (b := true) hb1 rfl rfl rfl trivial ?_
   refine Vc.nil ?_
   injection h with h
   subst h
   refine m_norm ?_
   apply w_conv hC []
   ·
    exact co
   ·
    rfl
   ·
    decide
   ·
    rfl
  ·
   iterate 3 refine v_on hT hC rfl rfl rfl rfl hb1 rfl rfl rfl trivial ?_
   refine v_pick hC rfl rfl rfl (b := false) hb1 rfl rfl rfl trivial ?_
   refine Vc.nil ?_
   injection h with h
   subst h
   refine m_norm ?_
   apply w_conv hC []
   ·
    exact co
   ·
    rfl
   ·
    decide
   ·
    rfl
 rcases sel_some h with ⟨hb2, h⟩ | ⟨hb2, h⟩
 ·
  refine s_true rfl hb2 ?_
  refine s_reg ?_
  iterate 2 refine v_op hT hC rfl rfl rfl rfl trivial ?_
  refine Vc.nil ?_
  refine aw_ret ?_
  refine t_ret ?_
  injection h with h
  subst h
  exact ends (Weak.refl _) rfl trivial
 ·
  refine s_false rfl hb2 ?_
  refine aw_skip ?_
  refine t_norm ?_
  refine s_in ?_
  refine s_reg ?_
  iterate 3 refine v_op hT hC rfl rfl rfl rfl trivial ?_
  refine Vc.nil ?_
  rcases sel_some h with ⟨hb3, h⟩ | ⟨hb3, h⟩
  ·
   refine s_true rfl hb3 ?_
   refine s_reg ?_
   iterate 2 refine v_op hT hC rfl rfl rfl rfl trivial ?_
   refine Vc.nil ?_
   refine aw_ret ?_
   refine t_ret ?_
   injection h with h
   subst h
   exact ends (Weak.refl _) rfl trivial
  ·
   refine s_false rfl hb3 ?_
   refine aw_skip ?_
   refine t_norm ?_
   refine s_reg ?_
   iterate 2 refine v_op hT hC rfl rfl rfl rfl trivial ?_
   refine Vc.nil ?_
   refine aw_ret ?_
   injection h with h
   subst h
   exact ends (Weak.refl _) rfl trivial
def spec_DotAt_res (r : Int) : AV := .sv (.int .i64 r)
def spec_DotAt_obs (r : Int) : Objs := []
theorem spec_DotAt_ac {p0 : Pic} {p1 : Int} {p2 : Int} {r : Int} (h : spec_DotAt p0 p1 p2 = some r) : AC Tryz.prog 136 [.agg [.sv (.int .i64 p0.Wide), .sv (.int .i64 p0.High), .sv (.str p0.Dots)], .sv (.int .i64 p1), .sv (.int .i64 p2)] [] (spec_DotAt_res r) (spec_DotAt_obs r) := by
 refine ac_of_body hT Tryz.func136 rfl fun C hC => ?_
 unfold spec_DotAt at h
 refine s_reg ?_
 iterate 2 refine v_op hT hC rfl rfl rfl rfl trivial ?_
 refine Vc.nil ?_
 refine s_in ?_
 refine s_reg ?_
 refine v_op hT hC rfl rfl rfl rfl trivial ?_
 obtain ⟨q1, hq, h⟩ := bnd_some h
 refine v_call hC [] rfl rfl rfl rfl Tryz.call64 (spec_PicOk_ac hq) rfl (by decide) trivial rfl (.inl rfl) rfl ?_
 refine v_op hT hC rfl rfl rfl rfl trivial ?_
 refine Vc.nil ?_
 rcases sel_some h with ⟨hb1, h⟩ | ⟨hb1, h⟩
 ·
  refine s_true rfl hb1 ?_
  refine s_reg ?_
  refine v_op hT hC rfl rfl rfl rfl trivial ?_
  refine Vc.nil ?_
  refine aw_ret ?_
  refine t_ret ?_
  injection h with h
  subst h
  exact ends (Weak.refl _) rfl trivial
 ·
  refine s_false rfl hb1 ?_
  refine aw_skip ?_
  refine t_norm ?_
  refine s_draw hm ?_
  iterate 6 refine v_op hT hC rfl rfl rfl rfl trivial ?_
  obtain ⟨q2, hq, h⟩ := bnd_some h
  refine v_call hC [] rfl rfl rfl rfl Tryz.call155 (spec_Brought_ac hq) rfl (by decide) trivial rfl (.inl rfl) rfl ?_
  iterate 7 refine v_op hT hC rfl rfl rfl rfl trivial ?_
  obtain ⟨q3, hq, h⟩ := bnd_some h
  refine v_call hC [] rfl rfl rfl rfl Tryz.call155 (spec_Brought_ac hq) rfl (by decide) trivial rfl (.inl rfl) rfl ?_
  refine v_op hT hC rfl rfl rfl rfl trivial ?_
  obtain ⟨hq, h⟩ := req_some h
  refine v_op hT hC rfl rfl rfl rfl hq ?_
  iterate 2 refine v_op hT hC rfl rfl rfl rfl trivial ?_
  refine Vc.nil ⟨by kernel_rfl, ?_⟩
  refine aw_ret ?_
  injection h with h
  subst h
  exact ends (Weak.refl _) rfl trivial
def spec_BlockOf_res (r : (List Int)) : AV := .own 16
def spec_BlockOf_obs (r : (List Int)) : Objs := [(16, .ints .i64 r)]
theorem spec_BlockOf_ac {p0 : Pic} {p1 : Int} {p2 : Int} {r : (List Int)} (h : spec_BlockOf p0 p1 p2 = some r) : AC Tryz.prog 67 [.agg [.sv (.int .i64 p0.Wide), .sv (.int .i64 p0.High), .sv (.str p0.Dots)], .sv (.int .i64 p1), .sv (.int .i64 p2)] [] (spec_BlockOf_res r) (spec_BlockOf_obs r) := by
 refine ac_of_body hT Tryz.func67 rfl fun C hC => ?_
 unfold spec_BlockOf at h
 refine s_reg ?_
 iterate 2 refine v_op hT hC rfl rfl rfl rfl trivial ?_
 refine Vc.nil ?_
 refine s_reg ?_
 iterate 2 refine v_op hT hC rfl rfl rfl rfl trivial ?_
 refine Vc.nil ?_
 refine s_in ?_
 refine live [1, 2, 3, 7] [48, 144] (s' := [_, _, _, _]) (o' := [_, _]) rfl rfl ?_
 obtain ⟨v1, h1, h⟩ := bnd_some h
 refine aw_to ([(22, .sv (.bool v1))], []) ?_ ?_
 ·
  have h := h1
  refine aw_region ?_
  refine v_op hT hC rfl rfl rfl rfl trivial ?_
  obtain ⟨q2, hq, h⟩ := bnd_some h
  refine v_call hC [] rfl rfl rfl rfl Tryz.call64 (spec_PicOk_ac hq) rfl (by decide) trivial rfl (.inl rfl) rfl ?_
  iterate 2 refine v_op hT hC rfl rfl rfl rfl trivial ?_
  rcases sel_some h with ⟨hb1, h⟩ | ⟨hb1, h⟩
  ·
   refine v_on hT hC rfl rfl rfl rfl (congrArg Bool.not hb1) rfl rfl rfl trivial ?_
   obtain ⟨q3, hq, h⟩ := bnd_some h
   refine v_call_on hC [] rfl rfl rfl rfl (congrArg Bool.not hb1) rfl rfl rfl Tryz.call46 (spec_l01In_ac hq) rfl (by decide) trivial rfl (.inl rfl) rfl ?_
   refine v_on hT hC rfl rfl rfl rfl (congrArg Bool.not hb1) rfl rfl rfl trivial ?_
   refine v_pick hC rfl rfl rfl (b := false) (congrArg Bool.not hb1) rfl rfl rfl trivial ?_
   refine v_op hT hC rfl rfl rfl rfl trivial ?_
   rcases sel_some h with ⟨hb2, h⟩ | ⟨hb2, h⟩
   ·
    refine v_on hT hC rfl rfl rfl rfl (congrArg Bool.not hb2) rfl rfl rfl trivial ?_
    obtain ⟨q4, hq, h⟩ := bnd_some h
    refine v_call_on hC [] rfl rfl rfl rfl (congrArg Bool.not hb2) rfl rfl rfl Tryz.call46 (spec_l01In_ac hq) rfl (by decide) trivial rfl (.inl rfl) rfl ?_
    refine v_on hT hC rfl rfl rfl rfl (congrArg Bool.not hb2) rfl rfl rfl trivial ?_
    refine v_pick hC rfl rfl rfl (b := false) (congrArg Bool.not hb2) rfl rfl rfl trivial ?_
    refine Vc.nil ?_
    injection h with h
    subst h
    refine m_norm ?_
    apply w_conv hC []
    ·
     exact co
    ·
     rfl
    ·
     decide
    ·
     rfl
   ·
    refine v_off hC rfl rfl rfl rfl (congrArg Bool.not hb2) rfl rfl ?_
    refine v_off hC rfl rfl rfl rfl (congrArg Bool.not hb2) rfl rfl ?_
    refine v_off hC rfl rfl rfl rfl (congrArg Bool.not hb2) rfl rfl ?_
    refine v_pick hC rfl rfl rfl (b := true) (congrArg Bool.not hb2) rfl rfl rfl trivial ?_
    refine Vc.nil ?_
    injection h with h
    subst h
    refine m_norm ?_
    apply w_conv hC []
    ·
     exact co
    ·
     rfl
    ·
     decide
    ·
     rfl
  ·
   refine v_off hC rfl rfl rfl rfl (congrArg Bool.not hb1) rfl rfl ?_
   refine v_off hC rfl rfl rfl rfl (congrArg Bool.not hb1) rfl rfl ?_
   refine v_off hC rfl rfl rfl rfl (congrArg Bool.not hb1) rfl rfl ?_
   refine v_pick hC rfl rfl rfl (b := true) (congrArg Bool.not hb1) rfl rfl rfl trivial ?_
   refine v_op hT hC rfl rfl rfl rfl trivial ?_
   refine v_off hC rfl rfl rfl rfl rfl rfl rfl ?_
   refine v_off hC rfl rfl rfl rfl rfl rfl rfl ?_
   refine v_off hC rfl rfl rfl rfl rfl rfl rfl ?_
   refine v_op hT hC rfl rfl rfl rfl trivial ?_
   refine Vc.nil ?_
   injection h with h
   subst h
   refine m_norm ?_
   apply w_conv hC []
   ·
    exact co
   ·
    rfl
   ·
    decide
   ·
    rfl
 rcases sel_some h with ⟨hb3, h⟩ | ⟨hb3, h⟩
 ·
  refine s_true rfl hb3 ?_
  refine s_reg ?_
  iterate 2 refine v_op hT hC rfl rfl rfl rfl trivial ?_
  refine Vc.nil ?_
  refine aw_ret ?_
  refine t_ret ?_
  injection h with h
  subst h
  refine ends (τ := ⟨[(6, .own 16)], [(16, some (.ints .i64 ([] : List Int)))]⟩) ?_ rfl ⟨rfl, trivial⟩
  apply w_conv hC [(16, 144)]
  ·
   exact co
  ·
   rfl
  ·
   decide
  ·
   rfl
 ·
  refine s_false rfl hb3 ?_
  refine aw_skip ?_
  refine t_norm ?_
  refine s_in ?_
  refine s_reg ?_
  refine v_op hT hC rfl rfl rfl rfl trivial ?_
  refine Vc.nil ?_
  refine live [1, 2, 3, 7, 8] [48, 144] (s' := [_, _, _, _, _]) (o' := [_, _]) rfl rfl ?_
  obtain ⟨v10, hl, h⟩ := bnd_some h
  refine s_loop (fun v7 => ([(8, .sv (.int .i64 v7.1))], [(144, some (.ints .i64 v7.2))])) (fun v10 => ([(1, .any), (2, .any), (3, .any), (8, .any)], [(144, some (.ints .i64 v10)), (48, none)])) hl ?_ ?_ ?_
  ·
   try dsimp only
   apply w_conv hC []
   ·
    exact co
   ·
    rfl
   ·
    decide
   ·
    rfl
  ·
   intro v7 s hs
   have h := hs
   unfold spec_BlockOf_l2 at h
   refine s_in ?_
   refine s_reg ?_
   iterate 2 refine v_op hT hC rfl rfl rfl rfl trivial ?_
   refine Vc.nil ?_
   rcases sel_some h with ⟨hb6, h⟩ | ⟨hb6, h⟩
   ·
    refine s_true rfl hb6 ?_
    refine aw_skip ?_
    refine t_norm ?_
    refine s_in ?_
    refine s_block ?_
    refine aw_region ?_
    iterate 4 refine v_op hT hC rfl rfl rfl rfl trivial ?_
    obtain ⟨hq, h⟩ := req_some h
    refine v_op hT hC rfl rfl rfl rfl hq ?_
    iterate 3 refine v_op hT hC rfl rfl rfl rfl trivial ?_
    obtain ⟨hq, h⟩ := req_some h
    refine v_op hT hC rfl rfl rfl rfl hq ?_
    refine v_op hT hC rfl rfl rfl rfl trivial ?_
    obtain ⟨q11, hq, h⟩ := bnd_some h
    refine v_call hC [] rfl rfl rfl rfl Tryz.call136 (spec_DotAt_ac hq) rfl (by decide) trivial rfl (.inl rfl) rfl ?_
    refine v_op hT hC rfl rfl rfl rfl trivial ?_
    obtain ⟨hq, h⟩ := req_some h
    refine v_op hT hC rfl rfl rfl rfl ⟨trivial, hq⟩ ?_
    refine v_op hT hC rfl rfl rfl rfl trivial ?_
    refine Vc.nil ?_
    refine b_norm ?_
    refine t_norm ?_
    refine aw_region ?_
    iterate 3 refine v_op hT hC rfl rfl rfl rfl trivial ?_
    refine Vc.nil ?_
    injection h with h
    subst h
    refine r_go ?_
    try dsimp only
    apply w_conv hC [(144, 640)]
    ·
     exact co
    ·
     rfl
    ·
     decide
    ·
     rfl
   ·
    refine s_false rfl hb6 ?_
    refine aw_exit ?_
    refine t_exit ?_
    injection h with h
    subst h
    refine r_exit ?_
    refine o_out ?_
    apply w_conv hC []
    ·
     exact co
    ·
     rfl
    ·
     decide
    ·
     rfl
  refine t_norm ?_
  refine s_reg ?_
  iterate 2 refine v_op hT hC rfl rfl rfl rfl trivial ?_
  refine Vc.nil ?_
  refine aw_ret ?_
  injection h with h
  subst h
  refine ends (τ := ⟨[(6, .own 16)], [(16, some (.ints .i64 v10))]⟩) ?_ rfl ⟨rfl, trivial⟩
  apply w_conv hC [(16, 144)]
  ·
   exact co
  ·
   rfl
  ·
   decide
  ·
   rfl
def spec_l17Less_res (r : (List Int)) : AV := .own 16
def spec_l17Less_obs (r : (List Int)) : Objs := [(16, .ints .i64 r)]
theorem spec_l17Less_ac {p0 : (List Int)} {p1 : (List Int)} {r : (List Int)} (h : spec_l17Less p0 p1 = some r) : AC Tryz.prog 107 [.sv (.ints .i64 p0), .sv (.ints .i64 p1)] [] (spec_l17Less_res r) (spec_l17Less_obs r) := by
 refine ac_of_body hT Tryz.func107 rfl fun C hC => ?_
 unfold spec_l17Less at h
 refine s_reg ?_
 refine v_op hT hC rfl rfl rfl rfl trivial ?_
 refine Vc.nil ?_
 refine s_reg ?_
 iterate 2 refine v_op hT hC rfl rfl rfl rfl trivial ?_
 refine Vc.nil ?_
 refine s_in ?_
 refine s_reg ?_
 refine v_op hT hC rfl rfl rfl rfl trivial ?_
 refine Vc.nil ?_
 refine live [0, 1, 5, 6] [112] (s' := [_, _, _, _]) (o' := [_]) rfl rfl ?_
 obtain ⟨v4, hl, h⟩ := bnd_some h
 refine s_loop (fun v2 => ([(6, .sv (.int .i64 v2.1))], [(112, some (.ints .i64 v2.2))])) (fun v4 => ([(0, .any), (1, .any), (6, .any)], [(112, some (.ints .i64 v4))])) hl ?_ ?_ ?_
 ·
  try dsimp only
  apply w_conv hC []
  ·
   exact co
  ·
   rfl
  ·
   decide
  ·
   rfl
 ·
  intro v2 s hs
  have h := hs
  unfold spec_l17Less_l2 at h
  refine s_in ?_
  refine s_reg ?_
  iterate 2 refine v_op hT hC rfl rfl rfl rfl trivial ?_
  refine Vc.nil ?_
  rcases sel_some h with ⟨hb3, h⟩ | ⟨hb3, h⟩
  ·
   refine s_true rfl hb3 ?_
   refine aw_skip ?_
   refine t_norm ?_
   refine s_in ?_
   refine s_block ?_
   refine aw_draw hm ?_
   iterate 3 refine v_op hT hC rfl rfl rfl rfl trivial ?_
   obtain ⟨hq, h⟩ := req_some h
   refine v_op hT hC rfl rfl rfl rfl hq ?_
   iterate 3 refine v_op hT hC rfl rfl rfl rfl trivial ?_
   obtain ⟨hq, h⟩ := req_some h
   refine v_op hT hC rfl rfl rfl rfl hq ?_
   iterate 3 refine v_op hT hC rfl rfl rfl rfl trivial ?_
   obtain ⟨hq, h⟩ := req_some h
   refine v_op hT hC rfl rfl rfl rfl ⟨trivial, hq⟩ ?_
   refine v_op hT hC rfl rfl rfl rfl trivial ?_
   refine Vc.nil ⟨by kernel_rfl, ?_⟩
   refine b_norm ?_
   refine t_norm ?_
   refine aw_region ?_
   iterate 3 refine v_op hT hC rfl rfl rfl rfl trivial ?_
   refine Vc.nil ?_
   injection h with h
   subst h
   refine r_go ?_
   try dsimp only
   apply w_conv hC [(112, 368)]
   ·
    exact co
   ·
    rfl
   ·
    decide
   ·
    rfl
  ·
   refine s_false rfl hb3 ?_
   refine aw_exit ?_
   refine t_exit ?_
   injection h with h
   subst h
   refine r_exit ?_
   refine o_out ?_
   apply w_conv hC []
   ·
    exact co
   ·
    rfl
   ·
    decide
   ·
    rfl
 refine t_norm ?_
 refine s_reg ?_
 iterate 2 refine v_op hT hC rfl rfl rfl rfl trivial ?_
 refine Vc.nil ?_
 refine aw_ret ?_
 injection h with h
 subst h
 refine ends (τ := ⟨[(4, .own 16)], [(16, some (.ints .i64 v4))]⟩) ?_ rfl ⟨rfl, trivial⟩
 apply w_conv hC [(16, 112)]
 ·
  exact co
 ·
  rfl
 ·
  decide
 ·
  rfl
def spec_l17Zero_res (r : Bool) : AV := .sv (.bool r)
def spec_l17Zero_obs (r : Bool) : Objs := []
theorem spec_l17Zero_ac {p0 : (List Int)} {r : Bool} (h : spec_l17Zero p0 = some r) : AC Tryz.prog 106 [.sv (.ints .i64 p0)] [] (spec_l17Zero_res r) (spec_l17Zero_obs r) := by
 refine ac_of_body hT Tryz.func106 rfl fun C hC => ?_
 unfold spec_l17Zero at h
 refine s_reg ?_
 refine v_op hT hC rfl rfl rfl rfl trivial ?_
 refine Vc.nil ?_
 refine s_in ?_
 refine s_reg ?_
 refine v_op hT hC rfl rfl rfl rfl trivial ?_
 refine Vc.nil ?_
 refine live [0, 3] [] (s' := [_, _]) (o' := []) rfl rfl ?_
 obtain ⟨o5, hl, h⟩ := bnd_some h
 refine s_loopR (fun v2 => ([(3, .sv (.int .i64 v2))], [])) (fun v4 => ([(0, .any), (3, .any)], [])) (fun r => EndsA C T Tryz.f106.results.toList (spec_l17Zero_res r) (spec_l17Zero_obs r)) hl ?_ ?_ ?_ ?_
 ·
  apply w_conv hC []
  ·
   exact co
  ·
   rfl
  ·
   decide
  ·
   rfl
 ·
  intro v2 s hs
  have h := hs
  unfold spec_l17Zero_l2 at h
  refine s_in ?_
  refine s_reg ?_
  iterate 4 refine v_op hT hC rfl rfl rfl rfl trivial ?_
  refine Vc.nil ?_
  rcases sel_some h with ⟨hb5, h⟩ | ⟨hb5, h⟩
  ·
   refine s_true rfl hb5 ?_
   refine aw_skip ?_
   refine t_norm ?_
   refine s_in ?_
   refine s_block ?_
   refine s_reg ?_
   iterate 2 refine v_op hT hC rfl rfl rfl rfl trivial ?_
   obtain ⟨hq, h⟩ := req_some h
   refine v_op hT hC rfl rfl rfl rfl hq ?_
   iterate 2 refine v_op hT hC rfl rfl rfl rfl trivial ?_
   refine Vc.nil ?_
   rcases sel_some h with ⟨hb6, h⟩ | ⟨hb6, h⟩
   ·
    refine s_true rfl hb6 ?_
    refine s_reg ?_
    refine v_op hT hC rfl rfl rfl rfl trivial ?_
    refine Vc.nil ?_
    refine aw_ret ?_
    refine b_ret ?_
    refine t_ret ?_
    injection h with h
    subst h
    refine r_ret ?_
    refine o_ret ?_
    exact ends (Weak.refl _) rfl trivial
   ·
    refine s_false rfl hb6 ?_
    refine aw_skip ?_
    refine b_norm ?_
    refine t_norm ?_
    refine aw_region ?_
    iterate 3 refine v_op hT hC rfl rfl rfl rfl trivial ?_
    refine Vc.nil ?_
    injection h with h
    subst h
    refine r_go ?_
    apply w_conv hC []
    ·
     exact co
    ·
     rfl
    ·
     decide
    ·
     rfl
  ·
   refine s_false rfl hb5 ?_
   refine aw_exit ?_
   refine t_exit ?_
   injection h with h
   subst h
   refine r_exit ?_
   refine o_both ?_
   apply w_conv hC []
   ·
    exact co
   ·
    rfl
   ·
    decide
   ·
    rfl
 ·
  intro v4 e
  subst e
  refine t_norm ?_
  refine s_reg ?_
  refine v_op hT hC rfl rfl rfl rfl trivial ?_
  refine Vc.nil ?_
  refine aw_ret ?_
  injection h with h
  subst h
  exact ends (Weak.refl _) rfl trivial
 ·
  intro r' σ' e hE
  subst e
  injection h with h
  subst h
  refine t_ret ?_
  exact hE
def spec_EdgesOf_res (r : (Edges × Bool)) : AV := .tup [.agg [.own 16, .own 17, .sv (.int .i64 r.1.Corner)], .sv (.bool r.2)]
def spec_EdgesOf_obs (r : (Edges × Bool)) : Objs := [(16, .ints .i64 r.1.Above), (17, .ints .i64 r.1.Left)]
theorem spec_EdgesOf_ac {p0 : Pic} {p1 : Int} {p2 : Int} {r : (Edges × Bool)} (h : spec_EdgesOf p0 p1 p2 = some r) : AC Tryz.prog 108 [.agg [.sv (.int .i64 p0.Wide), .sv (.int .i64 p0.High), .sv (.str p0.Dots)], .sv (.int .i64 p1), .sv (.int .i64 p2)] [] (spec_EdgesOf_res r) (spec_EdgesOf_obs r) := by
 refine ac_of_body hT Tryz.func108 rfl fun C hC => ?_
 unfold spec_EdgesOf at h
 refine s_reg ?_
 iterate 3 refine v_op hT hC rfl rfl rfl rfl trivial ?_
 refine Vc.nil ?_
 refine s_in ?_
 refine s_reg ?_
 iterate 3 refine v_op hT hC rfl rfl rfl rfl trivial ?_
 obtain ⟨q1, hq, h⟩ := bnd_some h
 refine v_call hC [] rfl rfl rfl rfl Tryz.call43 (spec_l13Fits_ac hq) rfl (by decide) trivial rfl (.inl rfl) rfl ?_
 refine v_op hT hC rfl rfl rfl rfl trivial ?_
 refine Vc.nil ?_
 rcases sel_some h with ⟨hb1, h⟩ | ⟨hb1, h⟩
 ·
  refine s_true rfl hb1 ?_
  refine s_reg ?_
  iterate 3 refine v_op hT hC rfl rfl rfl rfl trivial ?_
  refine Vc.nil ?_
  refine aw_ret ?_
  refine t_ret ?_
  injection h with h
  subst h
  refine ends (τ := ⟨[(6, .ptr 2000000 0), (7, .sv (.bool false))], [(16, some (.ints .i64 [])), (17, some (.ints .i64 [])), (2000000, some (.box [.own 16, .own 17, .sv (.int .i64 0)]))]⟩) ?_ rfl ⟨rfl, rfl, trivial⟩
  refine w_cell hC 96 0 1025 (.ints .i64 []) rfl rfl rfl rfl rfl trivial ?_
  refine w_cell hC 96 1 1026 (.ints .i64 []) rfl rfl rfl rfl rfl trivial ?_
  apply w_conv hC [(16, 1025), (17, 1026), (2000000, 96)]
  ·
   exact co
  ·
   rfl
  ·
   decide
  ·
   rfl
 ·
  refine s_false rfl hb1 ?_
  refine aw_skip ?_
  refine t_norm ?_
  refine s_reg ?_
  iterate 3 refine v_op hT hC rfl rfl rfl rfl trivial ?_
  refine Vc.nil ?_
  refine s_in ?_
  refine s_reg ?_
  refine v_op hT hC rfl rfl rfl rfl trivial ?_
  refine Vc.nil ?_
  refine live [1, 2, 3, 6, 8, 9] [48, 96, 128] (s' := [_, _, _, _, _, _]) (o' := [_, _, _]) rfl rfl ?_
  obtain ⟨v13, hl, h⟩ := bnd_some h
  refine s_loop (fun v7 => ([(9, .sv (.int .i64 v7.1))], [(128, some (.box [.own 1049, .own 1050, .sv (.int .i64 (-1))])), (1049, some (.ints .i64 v7.2.1)), (1050, some (.ints .i64 v7.2.2))])) (fun v13 => ([(9, .any)], [(128, some (.box [.own 1053, .own 1054, .sv (.int .i64 (-1))])), (1053, some (.ints .i64 v13.1)), (1054, some (.ints .i64 v13.2))])) hl ?_ ?_ ?_
  ·
   refine w_cell hC 128 0 1055 (.ints .i64 []) rfl rfl rfl rfl rfl trivial ?_
   refine w_cell hC 128 1 1056 (.ints .i64 []) rfl rfl rfl rfl rfl trivial ?_
   try dsimp only
   apply w_conv hC [(1049, 1055), (1050, 1056)]
   ·
    exact co
   ·
    rfl
   ·
    decide
   ·
    rfl
  ·
   intro v7 s hs
   have h := hs
   unfold spec_EdgesOf_l2 at h
   refine s_in ?_
   refine s_reg ?_
   iterate 2 refine v_op hT hC rfl rfl rfl rfl trivial ?_
   refine Vc.nil ?_
   rcases sel_some h with ⟨hb8, h⟩ | ⟨hb8, h⟩
   ·
    refine s_true rfl hb8 ?_
    refine aw_skip ?_
    refine t_norm ?_
    refine live [1, 2, 3, 6, 8, 9] [48, 96, 128, 1049, 1050] (s' := [_, _, _, _, _, _]) (o' := [_, _, _, _, _]) rfl rfl ?_
    obtain ⟨v14, h1, h⟩ := bnd_some h
    refine aw_to ([], [(1049, some (.ints .i64 v14.1)), (1050, some (.ints .i64 v14.2))]) ?_ ?_
    ·
     have h := h1
     refine s_block ?_
     refine live [1, 2, 3, 6, 8, 9] [48, 96, 128, 1049, 1050] (s' := [_, _, _, _, _, _]) (o' := [_, _, _, _, _]) rfl rfl ?_
     obtain ⟨v15, h1, h⟩ := bnd_some h
     refine aw_to ([], [(1049, some (.ints .i64 v15))]) ?_ ?_
     ·
      have h := h1
      refine s_reg ?_
      iterate 2 refine v_op hT hC rfl rfl rfl rfl trivial ?_
      refine Vc.nil ?_
      rcases sel_some h with ⟨hb9, h⟩ | ⟨hb9, h⟩
      ·
       refine s_true rfl hb9 ?_
       refine aw_draw hm ?_
       iterate 8 refine v_op hT hC rfl rfl rfl rfl trivial ?_
       obtain ⟨q16, hq, h⟩ := bnd_some h
       refine v_call hC [] rfl rfl rfl rfl Tryz.call136 (spec_DotAt_ac hq) rfl (by decide) trivial rfl (.inl rfl) rfl ?_
       refine v_op hT hC rfl rfl rfl rfl trivial ?_
       obtain ⟨hq, h⟩ := req_some h
       refine v_op hT hC rfl rfl rfl rfl ⟨trivial, hq⟩ ?_
       iterate 2 refine v_op hT hC rfl rfl rfl rfl trivial ?_
       refine Vc.nil ⟨by kernel_rfl, ?_⟩
       injection h with h
       subst h
       refine m_norm ?_
       apply w_conv hC [(1049, 528)]
       ·
        exact co
       ·
        rfl
       ·
        decide
       ·
        rfl
      ·
       refine s_false rfl hb9 ?_
       refine aw_skip ?_
       injection h with h
       subst h
       refine m_norm ?_
       apply w_conv hC []
       ·
        exact co
       ·
        rfl
       ·
        decide
       ·
        rfl
     refine s_reg ?_
     iterate 2 refine v_op hT hC rfl rfl rfl rfl trivial ?_
     refine Vc.nil ?_
     rcases sel_some h with ⟨hb10, h⟩ | ⟨hb10, h⟩
     ·
      refine s_true rfl hb10 ?_
      refine aw_draw hm ?_
      iterate 8 refine v_op hT hC rfl rfl rfl rfl trivial ?_
      obtain ⟨q17, hq, h⟩ := bnd_some h
      refine v_call hC [] rfl rfl rfl rfl Tryz.call136 (spec_DotAt_ac hq) rfl (by decide) trivial rfl (.inl rfl) rfl ?_
      refine v_op hT hC rfl rfl rfl rfl trivial ?_
      obtain ⟨hq, h⟩ := req_some h
      refine v_op hT hC rfl rfl rfl rfl ⟨trivial, hq⟩ ?_
      iterate 2 refine v_op hT hC rfl rfl rfl rfl trivial ?_
      refine Vc.nil ⟨by kernel_rfl, ?_⟩
      refine b_norm ?_
      injection h with h
      subst h
      refine m_norm ?_
      try dsimp only
      apply w_conv hC [(1050, 752)]
      ·
       exact co
      ·
       rfl
      ·
       decide
      ·
       rfl
     ·
      refine s_false rfl hb10 ?_
      refine aw_skip ?_
      refine b_norm ?_
      injection h with h
      subst h
      refine m_norm ?_
      try dsimp only
      apply w_conv hC []
      ·
       exact co
      ·
       rfl
      ·
       decide
      ·
       rfl
    refine aw_region ?_
    iterate 3 refine v_op hT hC rfl rfl rfl rfl trivial ?_
    refine Vc.nil ?_
    injection h with h
    subst h
    refine r_go ?_
    try dsimp only
    apply w_conv hC []
    ·
     exact co
    ·
     rfl
    ·
     decide
    ·
     rfl
   ·
    refine s_false rfl hb8 ?_
    refine aw_exit ?_
    refine t_exit ?_
    injection h with h
    subst h
    refine r_exit ?_
    refine o_out ?_
    try dsimp only
    apply w_conv hC [(1053, 1049), (1054, 1050)]
    ·
     exact co
    ·
     rfl
    ·
     decide
    ·
     rfl
  refine t_norm ?_
  refine live [1, 2, 3, 6, 8] [48, 96, 128, 1053, 1054] (s' := [_, _, _, _, _]) (o' := [_, _, _, _, _]) rfl rfl ?_
  obtain ⟨v19, h1, h⟩ := bnd_some h
  refine aw_to ([(1, .any), (2, .any), (3, .any)], [(128, some (.box [.own 1053, .own 1054, .sv (.int .i64 v19)])), (48, none)]) ?_ ?_
  ·
   have h := h1
   refine live [1, 2, 3, 6, 8] [48, 96, 128, 1053, 1054] (s' := [_, _, _, _, _]) (o' := [_, _, _, _, _]) rfl rfl ?_
   obtain ⟨v20, h1, h⟩ := bnd_some h
   refine aw_to ([(54, .sv (.bool v20))], []) ?_ ?_
   ·
    have h := h1
    refine aw_region ?_
    iterate 3 refine v_op hT hC rfl rfl rfl rfl trivial ?_
    rcases sel_some h with ⟨hb11, h⟩ | ⟨hb11, h⟩
    ·
     iterate 2 refine v_on hT hC rfl rfl rfl rfl hb11 rfl rfl rfl trivial ?_
     refine v_pick hC rfl rfl rfl (b := true) hb11 rfl rfl rfl trivial ?_
     refine Vc.nil ?_
     injection h with h
     subst h
     refine m_norm ?_
     apply w_conv hC []
     ·
      exact co
     ·
      rfl
     ·
      decide
     ·
      rfl
    ·
     refine v_off hC rfl rfl rfl rfl hb11 rfl rfl ?_
     refine v_off hC rfl rfl rfl rfl hb11 rfl rfl ?_
     refine v_pick hC rfl rfl rfl (b := false) hb11 rfl rfl rfl trivial ?_
     refine Vc.nil ?_
     injection h with h
     subst h
     refine m_norm ?_
     apply w_conv hC []
     ·
      exact co
     ·
      rfl
     ·
      decide
     ·
      rfl
   rcases sel_some h with ⟨hb12, h⟩ | ⟨hb12, h⟩
   ·
    refine s_true rfl hb12 ?_
    refine aw_region ?_
    iterate 5 refine v_op hT hC rfl rfl rfl rfl trivial ?_
    obtain ⟨q21, hq, h⟩ := bnd_some h
    refine v_call hC [] rfl rfl rfl rfl Tryz.call136 (spec_DotAt_ac hq) rfl (by decide) trivial rfl (.inl rfl) rfl ?_
    iterate 2 refine v_op hT hC rfl rfl rfl rfl trivial ?_
    refine Vc.nil ?_
    injection h with h
    subst h
    refine m_norm ?_
    apply w_conv hC []
    ·
     exact co
    ·
     rfl
    ·
     decide
    ·
     rfl
   ·
    refine s_false rfl hb12 ?_
    refine aw_skip ?_
    injection h with h
    subst h
    refine m_norm ?_
    apply w_conv hC []
    ·
     exact co
    ·
     rfl
    ·
     decide
    ·
     rfl
  refine s_reg ?_
  iterate 3 refine v_op hT hC rfl rfl rfl rfl trivial ?_
  refine Vc.nil ?_
  refine aw_ret ?_
  injection h with h
  subst h
  refine ends (τ := ⟨[(6, .ptr 2000000 0), (7, .sv (.bool true))], [(16, some (.ints .i64 v13.1)), (17, some (.ints .i64 v13.2)), (2000000, some (.box [.own 16, .own 17, .sv (.int .i64 v19)]))]⟩) ?_ rfl ⟨rfl, rfl, trivial⟩
  apply w_conv hC [(16, 1053), (17, 1054), (2000000, 96)]
  ·
   exact co
  ·
   rfl
  ·
   decide
  ·
   rfl
def spec_l13Side_res (r : Bool) : AV := .sv (.bool r)
def spec_l13Side_obs (r : Bool) : Objs := []
theorem spec_l13Side_ac {p0 : (List Int)} {r : Bool} (h : spec_l13Side p0 = some r) : AC Tryz.prog 216 [.sv (.ints .i64 p0)] [] (spec_l13Side_res r) (spec_l13Side_obs r) := by
 refine ac_of_body hT Tryz.func216 rfl fun C hC => ?_
 unfold spec_l13Side at h
 refine s_reg ?_
 refine v_op hT hC rfl rfl rfl rfl trivial ?_
 refine Vc.nil ?_
 refine s_in ?_
 refine live [0] [] (s' := [_]) (o' := []) rfl rfl ?_
 obtain ⟨v1, h1, h⟩ := bnd_some h
 refine aw_to ([(11, .sv (.bool v1))], []) ?_ ?_
 ·
  have h := h1
  refine aw_region ?_
  iterate 4 refine v_op hT hC rfl rfl rfl rfl trivial ?_
  rcases sel_some h with ⟨hb1, h⟩ | ⟨hb1, h⟩
  ·
   iterate 3 refine v_on hT hC rfl rfl rfl rfl hb1 rfl rfl rfl trivial ?_
   refine v_pick hC rfl rfl rfl (b := true) hb1 rfl rfl rfl trivial ?_
   refine Vc.nil ?_
   injection h with h
   subst h
   refine m_norm ?_
   apply w_conv hC []
   ·
    exact co
   ·
    rfl
   ·
    decide
   ·
    rfl
  ·
   refine v_off hC rfl rfl rfl rfl hb1 rfl rfl ?_
   refine v_off hC rfl rfl rfl rfl hb1 rfl rfl ?_
   refine v_off hC rfl rfl rfl rfl hb1 rfl rfl ?_
   refine v_pick hC rfl rfl rfl (b := false) hb1 rfl rfl rfl trivial ?_
   refine Vc.nil ?_
   injection h with h
   subst h
   refine m_norm ?_
   apply w_conv hC []
   ·
    exact co
   ·
    rfl
   ·
    decide
   ·
    rfl
 rcases sel_some h with ⟨hb2, h⟩ | ⟨hb2, h⟩
 ·
  refine s_true rfl hb2 ?_
  refine s_reg ?_
  refine v_op hT hC rfl rfl rfl rfl trivial ?_
  refine Vc.nil ?_
  refine aw_ret ?_
  refine t_ret ?_
  injection h with h
  subst h
  exact ends (Weak.refl _) rfl trivial
 ·
  refine s_false rfl hb2 ?_
  refine aw_skip ?_
  refine t_norm ?_
  refine s_in ?_
  refine s_reg ?_
  refine v_op hT hC rfl rfl rfl rfl trivial ?_
  refine Vc.nil ?_
  refine live [0, 3] [] (s' := [_, _]) (o' := []) rfl rfl ?_
  obtain ⟨o9, hl, h⟩ := bnd_some h
  refine s_loopR (fun v4 => ([(3, .sv (.int .i64 v4))], [])) (fun v7 => ([(0, .any), (3, .any)], [])) (fun r => EndsA C T Tryz.f216.results.toList (spec_l13Side_res r) (spec_l13Side_obs r)) hl ?_ ?_ ?_ ?_
  ·
   apply w_conv hC []
   ·
    exact co
   ·
    rfl
   ·
    decide
   ·
    rfl
  ·
   intro v4 s hs
   have h := hs
   unfold spec_l13Side_l2 at h
   refine s_in ?_
   refine s_reg ?_
   iterate 4 refine v_op hT hC rfl rfl rfl rfl trivial ?_
   refine Vc.nil ?_
   rcases sel_some h with ⟨hb7, h⟩ | ⟨hb7, h⟩
   ·
    refine s_true rfl hb7 ?_
    refine aw_skip ?_
    refine t_norm ?_
    refine s_in ?_
    refine s_block ?_
    refine s_reg ?_
    iterate 2 refine v_op hT hC rfl rfl rfl rfl trivial ?_
    obtain ⟨hq, h⟩ := req_some h
    refine v_op hT hC rfl rfl rfl rfl hq ?_
    refine v_op hT hC rfl rfl rfl rfl trivial ?_
    obtain ⟨q8, hq, h⟩ := bnd_some h
    refine v_call hC [] rfl rfl rfl rfl Tryz.call46 (spec_l01In_ac hq) rfl (by decide) trivial rfl (.inl rfl) rfl ?_
    refine v_op hT hC rfl rfl rfl rfl trivial ?_
    refine Vc.nil ?_
    rcases sel_some h with ⟨hb8, h⟩ | ⟨hb8, h⟩
    ·
     refine s_true rfl hb8 ?_
     refine s_reg ?_
     refine v_op hT hC rfl rfl rfl rfl trivial ?_
     refine Vc.nil ?_
     refine aw_ret ?_
     refine b_ret ?_
     refine t_ret ?_
     injection h with h
     subst h
     refine r_ret ?_
     refine o_ret ?_
     exact ends (Weak.refl _) rfl trivial
    ·
     refine s_false rfl hb8 ?_
     refine aw_skip ?_
     refine b_norm ?_
     refine t_norm ?_
     refine aw_region ?_
     iterate 3 refine v_op hT hC rfl rfl rfl rfl trivial ?_
     refine Vc.nil ?_
     injection h with h
     subst h
     refine r_go ?_
     apply w_conv hC []
     ·
      exact co
     ·
      rfl
     ·
      decide
     ·
      rfl
   ·
    refine s_false rfl hb7 ?_
    refine aw_exit ?_
    refine t_exit ?_
    injection h with h
    subst h
    refine r_exit ?_
    refine o_both ?_
    apply w_conv hC []
    ·
     exact co
    ·
     rfl
    ·
     decide
    ·
     rfl
  ·
   intro v7 e
   subst e
   refine t_norm ?_
   refine s_reg ?_
   refine v_op hT hC rfl rfl rfl rfl trivial ?_
   refine Vc.nil ?_
   refine aw_ret ?_
   injection h with h
   subst h
   exact ends (Weak.refl _) rfl trivial
  ·
   intro r' σ' e hE
   subst e
   injection h with h
   subst h
   refine t_ret ?_
   exact hE
def spec_EdgesOk_res (r : Bool) : AV := .sv (.bool r)
def spec_EdgesOk_obs (r : Bool) : Objs := []
theorem spec_EdgesOk_ac {p0 : Edges} {r : Bool} (h : spec_EdgesOk p0 = some r) : AC Tryz.prog 165 [.agg [.sv (.ints .i64 p0.Above), .sv (.ints .i64 p0.Left), .sv (.int .i64 p0.Corner)]] [] (spec_EdgesOk_res r) (spec_EdgesOk_obs r) := by
 refine ac_of_body hT Tryz.func165 rfl fun C hC => ?_
 unfold spec_EdgesOk at h
 refine s_reg ?_
 iterate 2 refine v_op hT hC rfl rfl rfl rfl trivial ?_
 refine Vc.nil ?_
 refine live [1, 2] [16] (s' := [_, _]) (o' := [_]) rfl rfl ?_
 obtain ⟨v1, h1, h⟩ := bnd_some h
 refine aw_to ([(2, .sv (.bool v1)), (1, .any)], [(16, none)]) ?_ ?_
 ·
  have h := h1
  refine aw_region ?_
  iterate 2 refine v_op hT hC rfl rfl rfl rfl trivial ?_
  obtain ⟨q2, hq, h⟩ := bnd_some h
  refine v_call hC [] rfl rfl rfl rfl Tryz.call216 (spec_l13Side_ac hq) rfl (by decide) trivial rfl (.inl rfl) rfl ?_
  refine v_op hT hC rfl rfl rfl rfl trivial ?_
  rcases sel_some h with ⟨hb1, h⟩ | ⟨hb1, h⟩
  ·
   iterate 2 refine v_on hT hC rfl rfl rfl rfl hb1 rfl rfl rfl trivial ?_
   obtain ⟨q3, hq, h⟩ := bnd_some h
   refine v_call_on hC [] rfl rfl rfl rfl hb1 rfl rfl rfl Tryz.call216 (spec_l13Side_ac hq) rfl (by decide) trivial rfl (.inl rfl) rfl ?_
   refine v_pick hC rfl rfl rfl (b := true) hb1 rfl rfl rfl trivial ?_
   refine v_op hT hC rfl rfl rfl rfl trivial ?_
   rcases sel_some h with ⟨hb2, h⟩ | ⟨hb2, h⟩
   ·
    iterate 2 refine v_on hT hC rfl rfl rfl rfl hb2 rfl rfl rfl trivial ?_
    obtain ⟨q4, hq, h⟩ := bnd_some h
    refine v_call_on hC [] rfl rfl rfl rfl hb2 rfl rfl rfl Tryz.call46 (spec_l01In_ac hq) rfl (by decide) trivial rfl (.inl rfl) rfl ?_
    refine v_pick hC rfl rfl rfl (b := true) hb2 rfl rfl rfl trivial ?_
    refine v_op hT hC rfl rfl rfl rfl trivial ?_
    refine Vc.nil ?_
    injection h with h
    subst h
    refine m_norm ?_
    apply w_conv hC []
    ·
     exact co
    ·
     rfl
    ·
     decide
    ·
     rfl
   ·
    refine v_off hC rfl rfl rfl rfl hb2 rfl rfl ?_
    refine v_off hC rfl rfl rfl rfl hb2 rfl rfl ?_
    refine v_off hC rfl rfl rfl rfl hb2 rfl rfl ?_
    refine v_pick hC rfl rfl rfl (b := false) hb2 rfl rfl rfl trivial ?_
    refine v_op hT hC rfl rfl rfl rfl trivial ?_
    refine Vc.nil ?_
    injection h with h
    subst h
    refine m_norm ?_
    apply w_conv hC []
    ·
     exact co
    ·
     rfl
    ·
     decide
    ·
     rfl
  ·
   refine v_off hC rfl rfl rfl rfl hb1 rfl rfl ?_
   refine v_off hC rfl rfl rfl rfl hb1 rfl rfl ?_
   refine v_off hC rfl rfl rfl rfl hb1 rfl rfl ?_
   refine v_pick hC rfl rfl rfl (b := false) hb1 rfl rfl rfl trivial ?_
   refine v_op hT hC rfl rfl rfl rfl trivial ?_
   refine v_off hC rfl rfl rfl rfl rfl rfl rfl ?_
   refine v_off hC rfl rfl rfl rfl rfl rfl rfl ?_
   refine v_off hC rfl rfl rfl rfl rfl rfl rfl ?_
   iterate 2 refine v_op hT hC rfl rfl rfl rfl trivial ?_
   refine Vc.nil ?_
   injection h with h
   subst h
   refine m_norm ?_
   apply w_conv hC []
   ·
    exact co
   ·
    rfl
   ·
    decide
   ·
    rfl
 refine aw_ret ?_
 injection h with h
 subst h
 exact ends (Weak.refl _) rfl trivial
def spec_l13Filled_res (r : Int) : AV := .sv (.int .i64 r)
def spec_l13Filled_obs (r : Int) : Objs := []
theorem spec_l13Filled_ac {p0 : (List Int)} {p1 : Int} {r : Int} (h : spec_l13Filled p0 p1 = some r) : AC Tryz.prog 176 [.sv (.ints .i64 p0), .sv (.int .i64 p1)] [] (spec_l13Filled_res r) (spec_l13Filled_obs r) := by
 refine ac_of_body hT Tryz.func176 rfl fun C hC => ?_
 unfold spec_l13Filled at h
 refine s_reg ?_
 refine v_op hT hC rfl rfl rfl rfl trivial ?_
 refine Vc.nil ?_
 refine s_in ?_
 refine s_reg ?_
 iterate 3 refine v_op hT hC rfl rfl rfl rfl trivial ?_
 refine Vc.nil ?_
 rcases sel_some h with ⟨hb1, h⟩ | ⟨hb1, h⟩
 ·
  refine s_true rfl hb1 ?_
  refine s_reg ?_
  refine v_op hT hC rfl rfl rfl rfl trivial ?_
  refine Vc.nil ?_
  refine aw_ret ?_
  refine t_ret ?_
  injection h with h
  subst h
  exact ends (Weak.refl _) rfl trivial
 ·
  refine s_false rfl hb1 ?_
  refine aw_skip ?_
  refine t_norm ?_
  refine s_reg ?_
  iterate 2 refine v_op hT hC rfl rfl rfl rfl trivial ?_
  obtain ⟨hq, h⟩ := req_some h
  refine v_op hT hC rfl rfl rfl rfl hq ?_
  iterate 2 refine v_op hT hC rfl rfl rfl rfl trivial ?_
  refine Vc.nil ?_
  refine aw_ret ?_
  injection h with h
  subst h
  exact ends (Weak.refl _) rfl trivial
def spec_l13Mid_res (r : Int) : AV := .sv (.int .i64 r)
def spec_l13Mid_obs (r : Int) : Objs := []
theorem spec_l13Mid_ac {p0 : Edges} {r : Int} (h : spec_l13Mid p0 = some r) : AC Tryz.prog 177 [.agg [.sv (.ints .i64 p0.Above), .sv (.ints .i64 p0.Left), .sv (.int .i64 p0.Corner)]] [] (spec_l13Mid_res r) (spec_l13Mid_obs r) := by
 refine ac_of_body hT Tryz.func177 rfl fun C hC => ?_
 unfold spec_l13Mid at h
 refine s_reg ?_
 iterate 2 refine v_op hT hC rfl rfl rfl rfl trivial ?_
 refine Vc.nil ?_
 refine s_reg ?_
 iterate 8 refine v_op hT hC rfl rfl rfl rfl trivial ?_
 refine Vc.nil ?_
 refine s_in ?_
 refine s_reg ?_
 iterate 2 refine v_op hT hC rfl rfl rfl rfl trivial ?_
 refine Vc.nil ?_
 rcases sel_some h with ⟨hb1, h⟩ | ⟨hb1, h⟩
 ·
  refine s_true rfl hb1 ?_
  refine s_reg ?_
  refine v_op hT hC rfl rfl rfl rfl trivial ?_
  refine Vc.nil ?_
  refine aw_ret ?_
  refine t_ret ?_
  injection h with h
  subst h
  exact ends (Weak.refl _) rfl trivial
 ·
  refine s_false rfl hb1 ?_
  refine aw_skip ?_
  refine t_norm ?_
  refine s_reg ?_
  refine v_op hT hC rfl rfl rfl rfl trivial ?_
  obtain ⟨hq, h⟩ := req_some h
  refine v_op hT hC rfl rfl rfl rfl hq ?_
  refine v_op hT hC rfl rfl rfl rfl trivial ?_
  refine Vc.nil ?_
  refine s_in ?_
  refine s_reg ?_
  refine v_op hT hC rfl rfl rfl rfl trivial ?_
  refine Vc.nil ?_
  refine live [1, 3, 4, 5] [16] (s' := [_, _, _, _]) (o' := [_]) rfl rfl ?_
  obtain ⟨v4, hl, h⟩ := bnd_some h
  refine s_loop (fun v2 => ([(4, .sv (.int .i64 v2.1)), (5, .sv (.int .i64 v2.2))], [])) (fun v4 => ([(4, .sv (.int .i64 v4)), (5, .any)], [])) hl ?_ ?_ ?_
  ·
   try dsimp only
   apply w_conv hC []
   ·
    exact co
   ·
    rfl
   ·
    decide
   ·
    rfl
  ·
   intro v2 s hs
   have h := hs
   unfold spec_l13Mid_l2 at h
   refine s_in ?_
   refine s_reg ?_
   iterate 5 refine v_op hT hC rfl rfl rfl rfl trivial ?_
   refine Vc.nil ?_
   rcases sel_some h with ⟨hb4, h⟩ | ⟨hb4, h⟩
   ·
    refine s_true rfl hb4 ?_
    refine aw_skip ?_
    refine t_norm ?_
    refine s_in ?_
    refine s_block ?_
    refine aw_region ?_
    iterate 4 refine v_op hT hC rfl rfl rfl rfl trivial ?_
    obtain ⟨hq, h⟩ := req_some h
    refine v_op hT hC rfl rfl rfl rfl hq ?_
    iterate 3 refine v_op hT hC rfl rfl rfl rfl trivial ?_
    refine Vc.nil ?_
    refine b_norm ?_
    refine t_norm ?_
    refine aw_region ?_
    iterate 3 refine v_op hT hC rfl rfl rfl rfl trivial ?_
    refine Vc.nil ?_
    injection h with h
    subst h
    refine r_go ?_
    try dsimp only
    apply w_conv hC []
    ·
     exact co
    ·
     rfl
    ·
     decide
    ·
     rfl
   ·
    refine s_false rfl hb4 ?_
    refine aw_exit ?_
    refine t_exit ?_
    injection h with h
    subst h
    refine r_exit ?_
    refine o_out ?_
    apply w_conv hC []
    ·
     exact co
    ·
     rfl
    ·
     decide
    ·
     rfl
  refine t_norm ?_
  refine s_in ?_
  refine s_reg ?_
  refine v_op hT hC rfl rfl rfl rfl trivial ?_
  refine Vc.nil ?_
  refine live [1, 3, 4, 6] [16] (s' := [_, _, _, _]) (o' := [_]) rfl rfl ?_
  obtain ⟨v9, hl, h⟩ := bnd_some h
  refine s_loop (fun v7 => ([(4, .sv (.int .i64 v7.1)), (6, .sv (.int .i64 v7.2))], [])) (fun v9 => ([(4, .sv (.int .i64 v9)), (1, .any), (6, .any)], [(16, none)])) hl ?_ ?_ ?_
  ·
   try dsimp only
   apply w_conv hC []
   ·
    exact co
   ·
    rfl
   ·
    decide
   ·
    rfl
  ·
   intro v7 s hs
   have h := hs
   unfold spec_l13Mid_l4 at h
   refine s_in ?_
   refine s_reg ?_
   iterate 5 refine v_op hT hC rfl rfl rfl rfl trivial ?_
   refine Vc.nil ?_
   rcases sel_some h with ⟨hb7, h⟩ | ⟨hb7, h⟩
   ·
    refine s_true rfl hb7 ?_
    refine aw_skip ?_
    refine t_norm ?_
    refine s_in ?_
    refine s_block ?_
    refine aw_region ?_
    iterate 4 refine v_op hT hC rfl rfl rfl rfl trivial ?_
    obtain ⟨hq, h⟩ := req_some h
    refine v_op hT hC rfl rfl rfl rfl hq ?_
    iterate 3 refine v_op hT hC rfl rfl rfl rfl trivial ?_
    refine Vc.nil ?_
    refine b_norm ?_
    refine t_norm ?_
    refine aw_region ?_
    iterate 3 refine v_op hT hC rfl rfl rfl rfl trivial ?_
    refine Vc.nil ?_
    injection h with h
    subst h
    refine r_go ?_
    try dsimp only
    apply w_conv hC []
    ·
     exact co
    ·
     rfl
    ·
     decide
    ·
     rfl
   ·
    refine s_false rfl hb7 ?_
    refine aw_exit ?_
    refine t_exit ?_
    injection h with h
    subst h
    refine r_exit ?_
    refine o_out ?_
    apply w_conv hC []
    ·
     exact co
    ·
     rfl
    ·
     decide
    ·
     rfl
  refine t_norm ?_
  refine s_reg ?_
  iterate 2 refine v_op hT hC rfl rfl rfl rfl trivial ?_
  obtain ⟨hq, h⟩ := req_some h
  refine v_op hT hC rfl rfl rfl rfl hq ?_
  refine v_op hT hC rfl rfl rfl rfl trivial ?_
  refine Vc.nil ?_
  refine aw_ret ?_
  injection h with h
  subst h
  exact ends (Weak.refl _) rfl trivial
def spec_GuessOf_res (r : (List Int)) : AV := .own 16
def spec_GuessOf_obs (r : (List Int)) : Objs := [(16, .ints .i64 r)]
theorem spec_GuessOf_ac {p0 : Int} {p1 : Edges} {r : (List Int)} (h : spec_GuessOf p0 p1 = some r) : AC Tryz.prog 112 [.sv (.int .i64 p0), .agg [.sv (.ints .i64 p1.Above), .sv (.ints .i64 p1.Left), .sv (.int .i64 p1.Corner)]] [] (spec_GuessOf_res r) (spec_GuessOf_obs r) := by
 refine ac_of_body hT Tryz.func112 rfl fun C hC => ?_
 unfold spec_GuessOf at h
 refine s_reg ?_
 iterate 2 refine v_op hT hC rfl rfl rfl rfl trivial ?_
 refine Vc.nil ?_
 refine s_reg ?_
 iterate 2 refine v_op hT hC rfl rfl rfl rfl trivial ?_
 refine Vc.nil ?_
 refine s_in ?_
 refine live [0, 3, 5] [48, 160] (s' := [_, _, _]) (o' := [_, _]) rfl rfl ?_
 obtain ⟨v1, h1, h⟩ := bnd_some h
 refine aw_to ([(18, .sv (.bool v1))], []) ?_ ?_
 ·
  have h := h1
  refine aw_region ?_
  refine v_op hT hC rfl rfl rfl rfl trivial ?_
  obtain ⟨q2, hq, h⟩ := bnd_some h
  refine v_call hC [] rfl rfl rfl rfl Tryz.call165 (spec_EdgesOk_ac hq) rfl (by decide) trivial rfl (.inl rfl) rfl ?_
  iterate 2 refine v_op hT hC rfl rfl rfl rfl trivial ?_
  rcases sel_some h with ⟨hb1, h⟩ | ⟨hb1, h⟩
  ·
   refine v_on hT hC rfl rfl rfl rfl (congrArg Bool.not hb1) rfl rfl rfl trivial ?_
   obtain ⟨q3, hq, h⟩ := bnd_some h
   refine v_call_on hC [] rfl rfl rfl rfl (congrArg Bool.not hb1) rfl rfl rfl Tryz.call46 (spec_l01In_ac hq) rfl (by decide) trivial rfl (.inl rfl) rfl ?_
   refine v_on hT hC rfl rfl rfl rfl (congrArg Bool.not hb1) rfl rfl rfl trivial ?_
   refine v_pick hC rfl rfl rfl (b := false) (congrArg Bool.not hb1) rfl rfl rfl trivial ?_
   refine Vc.nil ?_
   injection h with h
   subst h
   refine m_norm ?_
   apply w_conv hC []
   ·
    exact co
   ·
    rfl
   ·
    decide
   ·
    rfl
  ·
   refine v_off hC rfl rfl rfl rfl (congrArg Bool.not hb1) rfl rfl ?_
   refine v_off hC rfl rfl rfl rfl (congrArg Bool.not hb1) rfl rfl ?_
   refine v_off hC rfl rfl rfl rfl (congrArg Bool.not hb1) rfl rfl ?_
   refine v_pick hC rfl rfl rfl (b := true) (congrArg Bool.not hb1) rfl rfl rfl trivial ?_
   refine Vc.nil ?_
   injection h with h
   subst h
   refine m_norm ?_
   apply w_conv hC []
   ·
    exact co
   ·
    rfl
   ·
    decide
   ·
    rfl
 rcases sel_some h with ⟨hb2, h⟩ | ⟨hb2, h⟩
 ·
  refine s_true rfl hb2 ?_
  refine s_reg ?_
  iterate 2 refine v_op hT hC rfl rfl rfl rfl trivial ?_
  refine Vc.nil ?_
  refine aw_ret ?_
  refine t_ret ?_
  injection h with h
  subst h
  refine ends (τ := ⟨[(4, .own 16)], [(16, some (.ints .i64 ([] : List Int)))]⟩) ?_ rfl ⟨rfl, trivial⟩
  apply w_conv hC [(16, 160)]
  ·
   exact co
  ·
   rfl
  ·
   decide
  ·
   rfl
 ·
  refine s_false rfl hb2 ?_
  refine aw_skip ?_
  refine t_norm ?_
  refine s_reg ?_
  iterate 3 refine v_op hT hC rfl rfl rfl rfl trivial ?_
  refine Vc.nil ?_
  refine live [0, 3, 5, 6] [48, 160] (s' := [_, _, _, _]) (o' := [_, _]) rfl rfl ?_
  obtain ⟨v4, h1, h⟩ := bnd_some h
  refine aw_to ([(6, .sv (.int .i64 v4))], []) ?_ ?_
  ·
   have h := h1
   refine s_reg ?_
   iterate 2 refine v_op hT hC rfl rfl rfl rfl trivial ?_
   refine Vc.nil ?_
   rcases sel_some h with ⟨hb3, h⟩ | ⟨hb3, h⟩
   ·
    refine s_true rfl hb3 ?_
    refine aw_region ?_
    refine v_op hT hC rfl rfl rfl rfl trivial ?_
    refine Vc.nil ?_
    injection h with h
    subst h
    refine m_norm ?_
    apply w_conv hC []
    ·
     exact co
    ·
     rfl
    ·
     decide
    ·
     rfl
   ·
    refine s_false rfl hb3 ?_
    refine aw_skip ?_
    injection h with h
    subst h
    refine m_norm ?_
    apply w_conv hC []
    ·
     exact co
    ·
     rfl
    ·
     decide
    ·
     rfl
  refine s_in ?_
  refine s_reg ?_
  refine v_op hT hC rfl rfl rfl rfl trivial ?_
  refine Vc.nil ?_
  refine live [0, 3, 5, 6, 7] [48, 160] (s' := [_, _, _, _, _]) (o' := [_, _]) rfl rfl ?_
  obtain ⟨v18, hl, h⟩ := bnd_some h
  refine s_loop (fun v11 => ([(7, .sv (.int .i64 v11.1))], [(160, some (.ints .i64 v11.2))])) (fun v18 => ([(0, .any), (3, .any), (6, .any), (7, .any)], [(160, some (.ints .i64 v18)), (48, none)])) hl ?_ ?_ ?_
  ·
   try dsimp only
   apply w_conv hC []
   ·
    exact co
   ·
    rfl
   ·
    decide
   ·
    rfl
  ·
   intro v11 s hs
   have h := hs
   unfold spec_GuessOf_l2 at h
   refine s_in ?_
   refine s_reg ?_
   iterate 2 refine v_op hT hC rfl rfl rfl rfl trivial ?_
   refine Vc.nil ?_
   rcases sel_some h with ⟨hb12, h⟩ | ⟨hb12, h⟩
   ·
    refine s_true rfl hb12 ?_
    refine aw_skip ?_
    refine t_norm ?_
    refine live [0, 3, 5, 6, 7] [48, 160] (s' := [_, _, _, _, _]) (o' := [_, _]) rfl rfl ?_
    obtain ⟨v19, h1, h⟩ := bnd_some h
    refine aw_to ([(5, .own 1110)], [(1110, some (.ints .i64 v19)), (160, none)]) ?_ ?_
    ·
     have h := h1
     refine s_block ?_
     refine s_reg ?_
     iterate 3 refine v_op hT hC rfl rfl rfl rfl trivial ?_
     obtain ⟨hq, h⟩ := req_some h
     refine v_op hT hC rfl rfl rfl rfl hq ?_
     obtain ⟨q20, hq, h⟩ := bnd_some h
     refine v_call hC [] rfl rfl rfl rfl Tryz.call176 (spec_l13Filled_ac hq) rfl (by decide) trivial rfl (.inl rfl) rfl ?_
     refine v_op hT hC rfl rfl rfl rfl trivial ?_
     refine Vc.nil ?_
     refine s_reg ?_
     iterate 3 refine v_op hT hC rfl rfl rfl rfl trivial ?_
     obtain ⟨hq, h⟩ := req_some h
     refine v_op hT hC rfl rfl rfl rfl hq ?_
     obtain ⟨q21, hq, h⟩ := bnd_some h
     refine v_call hC [] rfl rfl rfl rfl Tryz.call176 (spec_l13Filled_ac hq) rfl (by decide) trivial rfl (.inl rfl) rfl ?_
     refine v_op hT hC rfl rfl rfl rfl trivial ?_
     refine Vc.nil ?_
     refine s_reg ?_
     refine v_op hT hC rfl rfl rfl rfl trivial ?_
     refine Vc.nil ?_
     refine s_block ?_
     refine s_reg ?_
     iterate 2 refine v_op hT hC rfl rfl rfl rfl trivial ?_
     refine Vc.nil ?_
     rcases sel_some h with ⟨hb13, h⟩ | ⟨hb13, h⟩
     ·
      refine s_true rfl hb13 ?_
      refine aw_region ?_
      iterate 2 refine v_op hT hC rfl rfl rfl rfl trivial ?_
      obtain ⟨q22, hq, h⟩ := bnd_some h
      refine v_call hC [] rfl rfl rfl rfl Tryz.call177 (spec_l13Mid_ac hq) rfl (by decide) trivial rfl (.inl rfl) rfl ?_
      refine v_op hT hC rfl rfl rfl rfl trivial ?_
      obtain ⟨hq, h⟩ := req_some h
      refine v_op hT hC rfl rfl rfl rfl ⟨trivial, hq⟩ ?_
      refine v_op hT hC rfl rfl rfl rfl trivial ?_
      refine Vc.nil ?_
      refine b_norm ?_
      refine b_norm ?_
      injection h with h
      subst h
      refine m_norm ?_
      apply w_conv hC [(1110, 864)]
      ·
       exact co
      ·
       rfl
      ·
       decide
      ·
       rfl
     ·
      refine s_false rfl hb13 ?_
      refine s_reg ?_
      iterate 2 refine v_op hT hC rfl rfl rfl rfl trivial ?_
      refine Vc.nil ?_
      rcases sel_some h with ⟨hb14, h⟩ | ⟨hb14, h⟩
      ·
       refine s_true rfl hb14 ?_
       refine aw_region ?_
       iterate 3 refine v_op hT hC rfl rfl rfl rfl trivial ?_
       obtain ⟨hq, h⟩ := req_some h
       refine v_op hT hC rfl rfl rfl rfl ⟨trivial, hq⟩ ?_
       refine v_op hT hC rfl rfl rfl rfl trivial ?_
       refine Vc.nil ?_
       refine b_norm ?_
       refine b_norm ?_
       injection h with h
       subst h
       refine m_norm ?_
       apply w_conv hC [(1110, 960)]
       ·
        exact co
       ·
        rfl
       ·
        decide
       ·
        rfl
      ·
       refine s_false rfl hb14 ?_
       refine s_reg ?_
       iterate 2 refine v_op hT hC rfl rfl rfl rfl trivial ?_
       refine Vc.nil ?_
       rcases sel_some h with ⟨hb15, h⟩ | ⟨hb15, h⟩
       ·
        refine s_true rfl hb15 ?_
        refine aw_region ?_
        iterate 3 refine v_op hT hC rfl rfl rfl rfl trivial ?_
        obtain ⟨hq, h⟩ := req_some h
        refine v_op hT hC rfl rfl rfl rfl ⟨trivial, hq⟩ ?_
        refine v_op hT hC rfl rfl rfl rfl trivial ?_
        refine Vc.nil ?_
        refine b_norm ?_
        refine b_norm ?_
        injection h with h
        subst h
        refine m_norm ?_
        apply w_conv hC [(1110, 1056)]
        ·
         exact co
        ·
         rfl
        ·
         decide
        ·
         rfl
       ·
        refine s_false rfl hb15 ?_
        refine aw_region ?_
        iterate 6 refine v_op hT hC rfl rfl rfl rfl trivial ?_
        obtain ⟨q23, hq, h⟩ := bnd_some h
        refine v_call hC [] rfl rfl rfl rfl Tryz.call155 (spec_Brought_ac hq) rfl (by decide) trivial rfl (.inl rfl) rfl ?_
        refine v_op hT hC rfl rfl rfl rfl trivial ?_
        obtain ⟨hq, h⟩ := req_some h
        refine v_op hT hC rfl rfl rfl rfl ⟨trivial, hq⟩ ?_
        refine v_op hT hC rfl rfl rfl rfl trivial ?_
        refine Vc.nil ?_
        refine b_norm ?_
        refine b_norm ?_
        injection h with h
        subst h
        refine m_norm ?_
        apply w_conv hC [(1110, 752)]
        ·
         exact co
        ·
         rfl
        ·
         decide
        ·
         rfl
    refine aw_region ?_
    iterate 3 refine v_op hT hC rfl rfl rfl rfl trivial ?_
    refine Vc.nil ?_
    injection h with h
    subst h
    refine r_go ?_
    try dsimp only
    apply w_conv hC [(160, 1110)]
    ·
     exact co
    ·
     rfl
    ·
     decide
    ·
     rfl
   ·
    refine s_false rfl hb12 ?_
    refine aw_exit ?_
    refine t_exit ?_
    injection h with h
    subst h
    refine r_exit ?_
    refine o_out ?_
    apply w_conv hC []
    ·
     exact co
    ·
     rfl
    ·
     decide
    ·
     rfl
  refine t_norm ?_
  refine s_reg ?_
  iterate 2 refine v_op hT hC rfl rfl rfl rfl trivial ?_
  refine Vc.nil ?_
  refine aw_ret ?_
  injection h with h
  subst h
  refine ends (τ := ⟨[(4, .own 16)], [(16, some (.ints .i64 v18))]⟩) ?_ rfl ⟨rfl, trivial⟩
  apply w_conv hC [(16, 160)]
  ·
   exact co
  ·
   rfl
  ·
   decide
  ·
   rfl
def spec_l09All_res (r : Bool) : AV := .sv (.bool r)
def spec_l09All_obs (r : Bool) : Objs := []
theorem spec_l09All_ac {p0 : (List Int)} {p1 : Int} {p2 : Int} {r : Bool} (h : spec_l09All p0 p1 p2 = some r) : AC Tryz.prog 169 [.sv (.ints .i64 p0), .sv (.int .i64 p1), .sv (.int .i64 p2)] [] (spec_l09All_res r) (spec_l09All_obs r) := by
 refine ac_of_body hT Tryz.func169 rfl fun C hC => ?_
 unfold spec_l09All at h
 refine s_reg ?_
 refine v_op hT hC rfl rfl rfl rfl trivial ?_
 refine Vc.nil ?_
 refine s_in ?_
 refine s_reg ?_
 iterate 4 refine v_op hT hC rfl rfl rfl rfl trivial ?_
 refine Vc.nil ?_
 rcases sel_some h with ⟨hb1, h⟩ | ⟨hb1, h⟩
 ·
  refine s_true rfl hb1 ?_
  refine s_reg ?_
  refine v_op hT hC rfl rfl rfl rfl trivial ?_
  refine Vc.nil ?_
  refine aw_ret ?_
  refine t_ret ?_
  injection h with h
  subst h
  exact ends (Weak.refl _) rfl trivial
 ·
  refine s_false rfl hb1 ?_
  refine aw_skip ?_
  refine t_norm ?_
  refine s_in ?_
  refine s_reg ?_
  refine v_op hT hC rfl rfl rfl rfl trivial ?_
  refine Vc.nil ?_
  refine live [0, 1, 2, 7] [] (s' := [_, _, _, _]) (o' := []) rfl rfl ?_
  obtain ⟨o8, hl, h⟩ := bnd_some h
  refine s_loopR (fun v3 => ([(7, .sv (.int .i64 v3))], [])) (fun v6 => ([(0, .any), (1, .any), (2, .any), (7, .any)], [])) (fun r => EndsA C T Tryz.f169.results.toList (spec_l09All_res r) (spec_l09All_obs r)) hl ?_ ?_ ?_ ?_
  ·
   apply w_conv hC []
   ·
    exact co
   ·
    rfl
   ·
    decide
   ·
    rfl
  ·
   intro v3 s hs
   have h := hs
   unfold spec_l09All_l2 at h
   refine s_in ?_
   refine s_reg ?_
   iterate 3 refine v_op hT hC rfl rfl rfl rfl trivial ?_
   refine Vc.nil ?_
   rcases sel_some h with ⟨hb6, h⟩ | ⟨hb6, h⟩
   ·
    refine s_true rfl hb6 ?_
    refine aw_skip ?_
    refine t_norm ?_
    refine s_in ?_
    refine s_block ?_
    refine s_reg ?_
    iterate 2 refine v_op hT hC rfl rfl rfl rfl trivial ?_
    obtain ⟨hq, h⟩ := req_some h
    refine v_op hT hC rfl rfl rfl rfl hq ?_
    iterate 4 refine v_op hT hC rfl rfl rfl rfl trivial ?_
    obtain ⟨q7, hq, h⟩ := bnd_some h
    refine v_call hC [] rfl rfl rfl rfl Tryz.call46 (spec_l01In_ac hq) rfl (by decide) trivial rfl (.inl rfl) rfl ?_
    refine v_op hT hC rfl rfl rfl rfl trivial ?_
    refine Vc.nil ?_
    rcases sel_some h with ⟨hb7, h⟩ | ⟨hb7, h⟩
    ·
     refine s_true rfl hb7 ?_
     refine s_reg ?_
     refine v_op hT hC rfl rfl rfl rfl trivial ?_
     refine Vc.nil ?_
     refine aw_ret ?_
     refine b_ret ?_
     refine t_ret ?_
     injection h with h
     subst h
     refine r_ret ?_
     refine o_ret ?_
     exact ends (Weak.refl _) rfl trivial
    ·
     refine s_false rfl hb7 ?_
     refine aw_skip ?_
     refine b_norm ?_
     refine t_norm ?_
     refine aw_region ?_
     iterate 3 refine v_op hT hC rfl rfl rfl rfl trivial ?_
     refine Vc.nil ?_
     injection h with h
     subst h
     refine r_go ?_
     apply w_conv hC []
     ·
      exact co
     ·
      rfl
     ·
      decide
     ·
      rfl
   ·
    refine s_false rfl hb6 ?_
    refine aw_exit ?_
    refine t_exit ?_
    injection h with h
    subst h
    refine r_exit ?_
    refine o_both ?_
    apply w_conv hC []
    ·
     exact co
    ·
     rfl
    ·
     decide
    ·
     rfl
  ·
   intro v6 e
   subst e
   refine t_norm ?_
   refine s_reg ?_
   refine v_op hT hC rfl rfl rfl rfl trivial ?_
   refine Vc.nil ?_
   refine aw_ret ?_
   injection h with h
   subst h
   exact ends (Weak.refl _) rfl trivial
  ·
   intro r' σ' e hE
   subst e
   injection h with h
   subst h
   refine t_ret ?_
   exact hE
def spec_l08Sized_res (r : Int) : AV := .sv (.int .i64 r)
def spec_l08Sized_obs (r : Int) : Objs := []
theorem spec_l08Sized_ac {p0 : Int} {r : Int} (h : spec_l08Sized p0 = some r) : AC Tryz.prog 217 [.sv (.int .i64 p0)] [] (spec_l08Sized_res r) (spec_l08Sized_obs r) := by
 refine ac_of_body hT Tryz.func217 rfl fun C hC => ?_
 unfold spec_l08Sized at h
 refine s_reg ?_
 refine v_op hT hC rfl rfl rfl rfl trivial ?_
 refine Vc.nil ?_
 refine s_in ?_
 refine s_reg ?_
 iterate 2 refine v_op hT hC rfl rfl rfl rfl trivial ?_
 refine Vc.nil ?_
 rcases sel_some h with ⟨hb1, h⟩ | ⟨hb1, h⟩
 ·
  refine s_true rfl hb1 ?_
  refine s_reg ?_
  iterate 3 refine v_op hT hC rfl rfl rfl rfl trivial ?_
  refine Vc.nil ?_
  refine aw_ret ?_
  refine t_ret ?_
  injection h with h
  subst h
  exact ends (Weak.refl _) rfl trivial
 ·
  refine s_false rfl hb1 ?_
  refine aw_skip ?_
  refine t_norm ?_
  refine s_reg ?_
  iterate 2 refine v_op hT hC rfl rfl rfl rfl trivial ?_
  refine Vc.nil ?_
  refine aw_ret ?_
  injection h with h
  subst h
  exact ends (Weak.refl _) rfl trivial
def spec_GapOf_res (r : Int) : AV := .sv (.int .i64 r)
def spec_GapOf_obs (r : Int) : Objs := []
theorem spec_GapOf_ac {p0 : (List Int)} {p1 : (List Int)} {r : Int} (h : spec_GapOf p0 p1 = some r) : AC Tryz.prog 166 [.sv (.ints .i64 p0), .sv (.ints .i64 p1)] [] (spec_GapOf_res r) (spec_GapOf_obs r) := by
 refine ac_of_body hT Tryz.func166 rfl fun C hC => ?_
 unfold spec_GapOf at h
 refine s_reg ?_
 refine v_op hT hC rfl rfl rfl rfl trivial ?_
 refine Vc.nil ?_
 refine s_in ?_
 refine live [0, 1] [] (s' := [_, _]) (o' := []) rfl rfl ?_
 obtain ⟨v1, h1, h⟩ := bnd_some h
 refine aw_to ([(14, .sv (.bool v1))], []) ?_ ?_
 ·
  have h := h1
  refine aw_region ?_
  refine v_op hT hC rfl rfl rfl rfl trivial ?_
  obtain ⟨q2, hq, h⟩ := bnd_some h
  refine v_call hC [] rfl rfl rfl rfl Tryz.call169 (spec_l09All_ac hq) rfl (by decide) trivial rfl (.inl rfl) rfl ?_
  iterate 2 refine v_op hT hC rfl rfl rfl rfl trivial ?_
  rcases sel_some h with ⟨hb1, h⟩ | ⟨hb1, h⟩
  ·
   refine v_on hT hC rfl rfl rfl rfl (congrArg Bool.not hb1) rfl rfl rfl trivial ?_
   obtain ⟨q3, hq, h⟩ := bnd_some h
   refine v_call_on hC [] rfl rfl rfl rfl (congrArg Bool.not hb1) rfl rfl rfl Tryz.call169 (spec_l09All_ac hq) rfl (by decide) trivial rfl (.inl rfl) rfl ?_
   refine v_on hT hC rfl rfl rfl rfl (congrArg Bool.not hb1) rfl rfl rfl trivial ?_
   refine v_pick hC rfl rfl rfl (b := false) (congrArg Bool.not hb1) rfl rfl rfl trivial ?_
   refine Vc.nil ?_
   injection h with h
   subst h
   refine m_norm ?_
   apply w_conv hC []
   ·
    exact co
   ·
    rfl
   ·
    decide
   ·
    rfl
  ·
   refine v_off hC rfl rfl rfl rfl (congrArg Bool.not hb1) rfl rfl ?_
   refine v_off hC rfl rfl rfl rfl (congrArg Bool.not hb1) rfl rfl ?_
   refine v_off hC rfl rfl rfl rfl (congrArg Bool.not hb1) rfl rfl ?_
   refine v_pick hC rfl rfl rfl (b := true) (congrArg Bool.not hb1) rfl rfl rfl trivial ?_
   refine Vc.nil ?_
   injection h with h
   subst h
   refine m_norm ?_
   apply w_conv hC []
   ·
    exact co
   ·
    rfl
   ·
    decide
   ·
    rfl
 rcases sel_some h with ⟨hb2, h⟩ | ⟨hb2, h⟩
 ·
  refine s_true rfl hb2 ?_
  refine s_reg ?_
  refine v_op hT hC rfl rfl rfl rfl trivial ?_
  refine Vc.nil ?_
  refine aw_ret ?_
  refine t_ret ?_
  injection h with h
  subst h
  exact ends (Weak.refl _) rfl trivial
 ·
  refine s_false rfl hb2 ?_
  refine aw_skip ?_
  refine t_norm ?_
  refine s_reg ?_
  refine v_op hT hC rfl rfl rfl rfl trivial ?_
  refine Vc.nil ?_
  refine s_in ?_
  refine s_reg ?_
  refine v_op hT hC rfl rfl rfl rfl trivial ?_
  refine Vc.nil ?_
  refine live [0, 1, 5, 6] [] (s' := [_, _, _, _]) (o' := []) rfl rfl ?_
  obtain ⟨v9, hl, h⟩ := bnd_some h
  refine s_loop (fun v6 => ([(5, .sv (.int .i64 v6.1)), (6, .sv (.int .i64 v6.2))], [])) (fun v9 => ([(5, .sv (.int .i64 v9)), (0, .any), (1, .any), (6, .any)], [])) hl ?_ ?_ ?_
  ·
   try dsimp only
   apply w_conv hC []
   ·
    exact co
   ·
    rfl
   ·
    decide
   ·
    rfl
  ·
   intro v6 s hs
   have h := hs
   unfold spec_GapOf_l2 at h
   refine s_in ?_
   refine s_reg ?_
   iterate 2 refine v_op hT hC rfl rfl rfl rfl trivial ?_
   refine Vc.nil ?_
   rcases sel_some h with ⟨hb5, h⟩ | ⟨hb5, h⟩
   ·
    refine s_true rfl hb5 ?_
    refine aw_skip ?_
    refine t_norm ?_
    refine s_in ?_
    refine s_block ?_
    refine aw_draw hm ?_
    iterate 3 refine v_op hT hC rfl rfl rfl rfl trivial ?_
    obtain ⟨hq, h⟩ := req_some h
    refine v_op hT hC rfl rfl rfl rfl hq ?_
    iterate 3 refine v_op hT hC rfl rfl rfl rfl trivial ?_
    obtain ⟨hq, h⟩ := req_some h
    refine v_op hT hC rfl rfl rfl rfl hq ?_
    iterate 2 refine v_op hT hC rfl rfl rfl rfl trivial ?_
    obtain ⟨q10, hq, h⟩ := bnd_some h
    refine v_call hC [] rfl rfl rfl rfl Tryz.call217 (spec_l08Sized_ac hq) rfl (by decide) trivial rfl (.inl rfl) rfl ?_
    iterate 2 refine v_op hT hC rfl rfl rfl rfl trivial ?_
    refine Vc.nil ⟨by kernel_rfl, ?_⟩
    refine b_norm ?_
    refine t_norm ?_
    refine aw_region ?_
    iterate 3 refine v_op hT hC rfl rfl rfl rfl trivial ?_
    refine Vc.nil ?_
    injection h with h
    subst h
    refine r_go ?_
    try dsimp only
    apply w_conv hC []
    ·
     exact co
    ·
     rfl
    ·
     decide
    ·
     rfl
   ·
    refine s_false rfl hb5 ?_
    refine aw_exit ?_
    refine t_exit ?_
    injection h with h
    subst h
    refine r_exit ?_
    refine o_out ?_
    apply w_conv hC []
    ·
     exact co
    ·
     rfl
    ·
     decide
    ·
     rfl
  refine t_norm ?_
  refine s_reg ?_
  iterate 2 refine v_op hT hC rfl rfl rfl rfl trivial ?_
  refine Vc.nil ?_
  refine aw_ret ?_
  injection h with h
  subst h
  exact ends (Weak.refl _) rfl trivial
def spec_l01Long_res (r : ByteArray) : AV := .sv (.str r)
def spec_l01Long_obs (r : ByteArray) : Objs := []
theorem spec_l01Long_ac {p0 : Int} {p1 : Int} {r : ByteArray} (h : spec_l01Long p0 p1 = some r) : AC Tryz.prog 135 [.sv (.int .i64 p0), .sv (.int .u8 p1)] [] (spec_l01Long_res r) (spec_l01Long_obs r) := by
 refine ac_of_body hT Tryz.func135 rfl fun C hC => ?_
 unfold spec_l01Long at h
 refine s_reg ?_
 refine v_op hT hC rfl rfl rfl rfl trivial ?_
 refine Vc.nil ?_
 refine s_reg ?_
 refine v_op hT hC rfl rfl rfl rfl trivial ?_
 obtain ⟨hq, h⟩ := req_some h
 refine v_op hT hC rfl rfl rfl rfl ⟨hq.1, hq.2.1, hq.2.2, by decide⟩ ?_
 refine v_op hT hC rfl rfl rfl rfl trivial ?_
 refine Vc.nil ?_
 refine s_in ?_
 refine s_reg ?_
 refine v_op hT hC rfl rfl rfl rfl trivial ?_
 refine Vc.nil ?_
 refine live [0, 1, 5, 6] [128] (s' := [_, _, _, _]) (o' := [_]) rfl rfl ?_
 obtain ⟨v4, hl, h⟩ := bnd_some h
 refine s_loop (fun v2 => ([(6, .sv (.int .i64 v2.1))], [(128, some (.ints .u8 v2.2))])) (fun v4 => ([(0, .any), (1, .any), (6, .any)], [(128, some (.ints .u8 v4))])) hl ?_ ?_ ?_
 ·
  try dsimp only
  apply w_conv hC []
  ·
   exact co
  ·
   rfl
  ·
   decide
  ·
   rfl
 ·
  intro v2 s hs
  have h := hs
  unfold spec_l01Long_l2 at h
  refine s_in ?_
  refine s_reg ?_
  iterate 3 refine v_op hT hC rfl rfl rfl rfl trivial ?_
  refine Vc.nil ?_
  rcases sel_some h with ⟨hb3, h⟩ | ⟨hb3, h⟩
  ·
   refine s_true rfl hb3 ?_
   refine aw_skip ?_
   refine t_norm ?_
   refine s_in ?_
   refine s_block ?_
   refine aw_region ?_
   iterate 3 refine v_op hT hC rfl rfl rfl rfl trivial ?_
   obtain ⟨hq, h⟩ := req_some h
   refine v_op hT hC rfl rfl rfl rfl hq ?_
   obtain ⟨hq, h⟩ := req_some h
   refine v_op hT hC rfl rfl rfl rfl hq ?_
   refine Vc.nil ?_
   refine b_norm ?_
   refine t_norm ?_
   refine aw_region ?_
   iterate 3 refine v_op hT hC rfl rfl rfl rfl trivial ?_
   refine Vc.nil ?_
   injection h with h
   subst h
   refine r_go ?_
   try dsimp only
   apply w_conv hC []
   ·
    exact co
   ·
    rfl
   ·
    decide
   ·
    rfl
  ·
   refine s_false rfl hb3 ?_
   refine aw_exit ?_
   refine t_exit ?_
   injection h with h
   subst h
   refine r_exit ?_
   refine o_out ?_
   apply w_conv hC []
   ·
    exact co
   ·
    rfl
   ·
    decide
   ·
    rfl
 refine t_norm ?_
 refine s_reg ?_
 iterate 3 refine v_op hT hC rfl rfl rfl rfl trivial ?_
 refine Vc.nil ?_
 refine aw_ret ?_
 injection h with h
 subst h
 exact ends (Weak.refl _) rfl trivial
def spec_l03Ue_res (r : ByteArray) : AV := .sv (.str r)
def spec_l03Ue_obs (r : ByteArray) : Objs := []
theorem spec_l03Ue_ac {p0 : Int} {r : ByteArray} (h : spec_l03Ue p0 = some r) : AC Tryz.prog 244 [.sv (.int .i64 p0)] [] (spec_l03Ue_res r) (spec_l03Ue_obs r) := by
 refine ac_of_body hT Tryz.func244 rfl fun C hC => ?_
 unfold spec_l03Ue at h
 refine s_reg ?_
 refine v_op hT hC rfl rfl rfl rfl trivial ?_
 refine Vc.nil ?_
 refine s_reg ?_
 iterate 3 refine v_op hT hC rfl rfl rfl rfl trivial ?_
 refine Vc.nil ?_
 refine s_reg ?_
 refine v_op hT hC rfl rfl rfl rfl trivial ?_
 refine Vc.nil ?_
 refine s_in ?_
 refine live [3, 4] [] (s' := [_, _]) (o' := []) rfl rfl ?_
 obtain ⟨v4, hl, h⟩ := bnd_some h
 refine s_loop (fun v2 => ([(3, .sv (.int .i64 v2.1)), (4, .sv (.str v2.2))], [])) (fun v4 => ([(4, .sv (.str v4)), (3, .any)], [])) hl ?_ ?_ ?_
 ·
  try dsimp only
  apply w_conv hC []
  ·
   exact co
  ·
   rfl
  ·
   decide
  ·
   rfl
 ·
  intro v2 s hs
  have h := hs
  unfold spec_l03Ue_l2 at h
  refine s_in ?_
  refine s_reg ?_
  iterate 2 refine v_op hT hC rfl rfl rfl rfl trivial ?_
  refine Vc.nil ?_
  rcases sel_some h with ⟨hb3, h⟩ | ⟨hb3, h⟩
  ·
   refine s_true rfl hb3 ?_
   refine aw_skip ?_
   refine t_norm ?_
   refine s_block ?_
   refine s_reg ?_
   refine v_op hT hC rfl rfl rfl rfl trivial ?_
   obtain ⟨hq, h⟩ := req_some h
   refine v_op hT hC rfl rfl rfl rfl hq ?_
   iterate 5 refine v_op hT hC rfl rfl rfl rfl trivial ?_
   obtain ⟨hq, h⟩ := req_some h
   refine v_op hT hC rfl rfl rfl rfl hq ?_
   refine v_op hT hC rfl rfl rfl rfl trivial ?_
   refine Vc.nil ?_
   refine aw_region ?_
   refine v_op hT hC rfl rfl rfl rfl trivial ?_
   obtain ⟨hq, h⟩ := req_some h
   refine v_op hT hC rfl rfl rfl rfl hq ?_
   refine v_op hT hC rfl rfl rfl rfl trivial ?_
   refine Vc.nil ?_
   refine b_norm ?_
   injection h with h
   subst h
   refine r_go ?_
   try dsimp only
   apply w_conv hC []
   ·
    exact co
   ·
    rfl
   ·
    decide
   ·
    rfl
  ·
   refine s_false rfl hb3 ?_
   refine aw_exit ?_
   refine t_exit ?_
   injection h with h
   subst h
   refine r_exit ?_
   refine o_out ?_
   apply w_conv hC []
   ·
    exact co
   ·
    rfl
   ·
    decide
   ·
    rfl
 refine t_norm ?_
 refine s_reg ?_
 iterate 3 refine v_op hT hC rfl rfl rfl rfl trivial ?_
 obtain ⟨q6, hq, h⟩ := bnd_some h
 refine v_call hC [] rfl rfl rfl rfl Tryz.call135 (spec_l01Long_ac hq) rfl (by decide) trivial rfl (.inl rfl) rfl ?_
 refine v_op hT hC rfl rfl rfl rfl trivial ?_
 obtain ⟨hq, h⟩ := req_some h
 refine v_op hT hC rfl rfl rfl rfl hq ?_
 refine v_op hT hC rfl rfl rfl rfl trivial ?_
 refine Vc.nil ?_
 refine aw_ret ?_
 injection h with h
 subst h
 exact ends (Weak.refl _) rfl trivial
def spec_UeRow_res (r : (ByteArray × Bool)) : AV := .tup [.sv (.str r.1), .sv (.bool r.2)]
def spec_UeRow_obs (r : (ByteArray × Bool)) : Objs := []
theorem spec_UeRow_ac {p0 : Int} {r : (ByteArray × Bool)} (h : spec_UeRow p0 = some r) : AC Tryz.prog 218 [.sv (.int .i64 p0)] [] (spec_UeRow_res r) (spec_UeRow_obs r) := by
 refine ac_of_body hT Tryz.func218 rfl fun C hC => ?_
 unfold spec_UeRow at h
 refine s_reg ?_
 iterate 2 refine v_op hT hC rfl rfl rfl rfl trivial ?_
 refine Vc.nil ?_
 refine s_in ?_
 refine s_reg ?_
 refine v_op hT hC rfl rfl rfl rfl trivial ?_
 obtain ⟨q1, hq, h⟩ := bnd_some h
 refine v_call hC [] rfl rfl rfl rfl Tryz.call46 (spec_l01In_ac hq) rfl (by decide) trivial rfl (.inl rfl) rfl ?_
 refine v_op hT hC rfl rfl rfl rfl trivial ?_
 refine Vc.nil ?_
 rcases sel_some h with ⟨hb1, h⟩ | ⟨hb1, h⟩
 ·
  refine s_true rfl hb1 ?_
  refine s_reg ?_
  iterate 2 refine v_op hT hC rfl rfl rfl rfl trivial ?_
  refine Vc.nil ?_
  refine aw_ret ?_
  refine t_ret ?_
  injection h with h
  subst h
  exact ends (Weak.refl _) rfl trivial
 ·
  refine s_false rfl hb1 ?_
  refine aw_skip ?_
  refine t_norm ?_
  refine s_reg ?_
  refine v_op hT hC rfl rfl rfl rfl trivial ?_
  obtain ⟨q2, hq, h⟩ := bnd_some h
  refine v_call hC [] rfl rfl rfl rfl Tryz.call244 (spec_l03Ue_ac hq) rfl (by decide) trivial rfl (.inl rfl) rfl ?_
  iterate 2 refine v_op hT hC rfl rfl rfl rfl trivial ?_
  refine Vc.nil ?_
  refine aw_ret ?_
  injection h with h
  subst h
  exact ends (Weak.refl _) rfl trivial
def spec_UeSize_res (r : Int) : AV := .sv (.int .i64 r)
def spec_UeSize_obs (r : Int) : Objs := []
theorem spec_UeSize_ac {p0 : Int} {r : Int} (h : spec_UeSize p0 = some r) : AC Tryz.prog 167 [.sv (.int .i64 p0)] [] (spec_UeSize_res r) (spec_UeSize_obs r) := by
 refine ac_of_body hT Tryz.func167 rfl fun C hC => ?_
 unfold spec_UeSize at h
 refine s_reg ?_
 refine v_op hT hC rfl rfl rfl rfl trivial ?_
 refine Vc.nil ?_
 refine s_reg ?_
 refine v_op hT hC rfl rfl rfl rfl trivial ?_
 obtain ⟨q1, hq, h⟩ := bnd_some h
 refine v_call hC [] rfl rfl rfl rfl Tryz.call218 (spec_UeRow_ac hq) rfl (by decide) trivial rfl (.inl rfl) rfl ?_
 iterate 5 refine v_op hT hC rfl rfl rfl rfl trivial ?_
 refine Vc.nil ?_
 refine s_reg ?_
 iterate 3 refine v_op hT hC rfl rfl rfl rfl trivial ?_
 refine Vc.nil ?_
 refine aw_ret ?_
 injection h with h
 subst h
 exact ends (Weak.refl _) rfl trivial
def spec_BestGuess_res (r : (Int × Int)) : AV := .tup [.sv (.int .i64 r.1), .sv (.int .i64 r.2)]
def spec_BestGuess_obs (r : (Int × Int)) : Objs := []
theorem spec_BestGuess_ac {p0 : (List Int)} {p1 : Edges} {r : (Int × Int)} (h : spec_BestGuess p0 p1 = some r) : AC Tryz.prog 109 [.sv (.ints .i64 p0), .agg [.sv (.ints .i64 p1.Above), .sv (.ints .i64 p1.Left), .sv (.int .i64 p1.Corner)]] [] (spec_BestGuess_res r) (spec_BestGuess_obs r) := by
 refine ac_of_body hT Tryz.func109 rfl fun C hC => ?_
 unfold spec_BestGuess at h
 refine s_reg ?_
 iterate 3 refine v_op hT hC rfl rfl rfl rfl trivial ?_
 refine Vc.nil ?_
 refine s_in ?_
 refine live [0, 3] [48] (s' := [_, _]) (o' := [_]) rfl rfl ?_
 obtain ⟨v1, h1, h⟩ := bnd_some h
 refine aw_to ([(17, .sv (.bool v1))], []) ?_ ?_
 ·
  have h := h1
  refine aw_region ?_
  refine v_op hT hC rfl rfl rfl rfl trivial ?_
  obtain ⟨q2, hq, h⟩ := bnd_some h
  refine v_call hC [] rfl rfl rfl rfl Tryz.call165 (spec_EdgesOk_ac hq) rfl (by decide) trivial rfl (.inl rfl) rfl ?_
  iterate 2 refine v_op hT hC rfl rfl rfl rfl trivial ?_
  rcases sel_some h with ⟨hb1, h⟩ | ⟨hb1, h⟩
  ·
   refine v_on hT hC rfl rfl rfl rfl (congrArg Bool.not hb1) rfl rfl rfl trivial ?_
   obtain ⟨q3, hq, h⟩ := bnd_some h
   refine v_call_on hC [] rfl rfl rfl rfl (congrArg Bool.not hb1) rfl rfl rfl Tryz.call44 (spec_l13Dots_ac hq) rfl (by decide) trivial rfl (.inl rfl) rfl ?_
   refine v_on hT hC rfl rfl rfl rfl (congrArg Bool.not hb1) rfl rfl rfl trivial ?_
   refine v_pick hC rfl rfl rfl (b := false) (congrArg Bool.not hb1) rfl rfl rfl trivial ?_
   refine Vc.nil ?_
   injection h with h
   subst h
   refine m_norm ?_
   apply w_conv hC []
   ·
    exact co
   ·
    rfl
   ·
    decide
   ·
    rfl
  ·
   refine v_off hC rfl rfl rfl rfl (congrArg Bool.not hb1) rfl rfl ?_
   refine v_off hC rfl rfl rfl rfl (congrArg Bool.not hb1) rfl rfl ?_
   refine v_off hC rfl rfl rfl rfl (congrArg Bool.not hb1) rfl rfl ?_
   refine v_pick hC rfl rfl rfl (b := true) (congrArg Bool.not hb1) rfl rfl rfl trivial ?_
   refine Vc.nil ?_
   injection h with h
   subst h
   refine m_norm ?_
   apply w_conv hC []
   ·
    exact co
   ·
    rfl
   ·
    decide
   ·
    rfl
 rcases sel_some h with ⟨hb2, h⟩ | ⟨hb2, h⟩
 ·
  refine s_true rfl hb2 ?_
  refine s_reg ?_
  iterate 2 refine v_op hT hC rfl rfl rfl rfl trivial ?_
  refine Vc.nil ?_
  refine aw_ret ?_
  refine t_ret ?_
  injection h with h
  subst h
  exact ends (Weak.refl _) rfl trivial
 ·
  refine s_false rfl hb2 ?_
  refine aw_skip ?_
  refine t_norm ?_
  refine s_reg ?_
  refine v_op hT hC rfl rfl rfl rfl trivial ?_
  refine Vc.nil ?_
  refine s_reg ?_
  refine v_op hT hC rfl rfl rfl rfl trivial ?_
  refine Vc.nil ?_
  refine s_in ?_
  refine s_reg ?_
  refine v_op hT hC rfl rfl rfl rfl trivial ?_
  refine Vc.nil ?_
  refine live [0, 3, 6, 7, 8] [48] (s' := [_, _, _, _, _]) (o' := [_]) rfl rfl ?_
  obtain ⟨v23, hl, h⟩ := bnd_some h
  refine s_loop (fun v16 => ([(6, .sv (.int .i64 v16.1)), (7, .sv (.int .i64 v16.2.1)), (8, .sv (.int .i64 v16.2.2))], [])) (fun v23 => ([(6, .sv (.int .i64 v23.1)), (7, .sv (.int .i64 v23.2)), (0, .any), (3, .any), (8, .any)], [(48, none)])) hl ?_ ?_ ?_
  ·
   try dsimp only
   apply w_conv hC []
   ·
    exact co
   ·
    rfl
   ·
    decide
   ·
    rfl
  ·
   intro v16 s hs
   have h := hs
   unfold spec_BestGuess_l2 at h
   refine s_in ?_
   refine s_reg ?_
   iterate 2 refine v_op hT hC rfl rfl rfl rfl trivial ?_
   refine Vc.nil ?_
   rcases sel_some h with ⟨hb12, h⟩ | ⟨hb12, h⟩
   ·
    refine s_true rfl hb12 ?_
    refine aw_skip ?_
    refine t_norm ?_
    refine live [0, 3, 6, 7, 8] [48] (s' := [_, _, _, _, _]) (o' := [_]) rfl rfl ?_
    obtain ⟨v24, h1, h⟩ := bnd_some h
    refine aw_to ([(6, .sv (.int .i64 v24.1)), (7, .sv (.int .i64 v24.2))], []) ?_ ?_
    ·
     have h := h1
     refine s_block ?_
     refine s_reg ?_
     iterate 3 refine v_op hT hC rfl rfl rfl rfl trivial ?_
     obtain ⟨q25, hq, h⟩ := bnd_some h
     refine v_call hC [(16, 400)] rfl rfl rfl rfl Tryz.call112 (spec_GuessOf_ac hq) rfl (by decide) trivial rfl (.inl rfl) rfl ?_
     obtain ⟨q26, hq, h⟩ := bnd_some h
     refine v_call hC [] rfl rfl rfl rfl Tryz.call166 (spec_GapOf_ac hq) rfl (by decide) trivial rfl (.inr ⟨rfl, trivial⟩) rfl ?_
     refine v_op hT hC rfl rfl rfl rfl trivial ?_
     obtain ⟨q27, hq, h⟩ := bnd_some h
     refine v_call hC [] rfl rfl rfl rfl Tryz.call167 (spec_UeSize_ac hq) rfl (by decide) trivial rfl (.inl rfl) rfl ?_
     iterate 2 refine v_op hT hC rfl rfl rfl rfl trivial ?_
     refine Vc.nil ?_
     refine live [0, 3, 6, 7, 8, 9] [48] (s' := [_, _, _, _, _, _]) (o' := [_]) rfl rfl ?_
     obtain ⟨v28, h1, h⟩ := bnd_some h
     refine aw_to ([(36, .sv (.bool v28))], []) ?_ ?_
     ·
      have h := h1
      refine aw_region ?_
      iterate 3 refine v_op hT hC rfl rfl rfl rfl trivial ?_
      rcases sel_some h with ⟨hb13, h⟩ | ⟨hb13, h⟩
      ·
       refine v_off hC rfl rfl rfl rfl hb13 rfl rfl ?_
       refine v_off hC rfl rfl rfl rfl hb13 rfl rfl ?_
       refine v_off hC rfl rfl rfl rfl hb13 rfl rfl ?_
       refine v_pick hC rfl rfl rfl (b := true) hb13 rfl rfl rfl trivial ?_
       refine Vc.nil ?_
       injection h with h
       subst h
       refine m_norm ?_
       apply w_conv hC []
       ·
        exact co
       ·
        rfl
       ·
        decide
       ·
        rfl
      ·
       iterate 3 refine v_on hT hC rfl rfl rfl rfl hb13 rfl rfl rfl trivial ?_
       refine v_pick hC rfl rfl rfl (b := false) hb13 rfl rfl rfl trivial ?_
       refine Vc.nil ?_
       injection h with h
       subst h
       refine m_norm ?_
       apply w_conv hC []
       ·
        exact co
       ·
        rfl
       ·
        decide
       ·
        rfl
     rcases sel_some h with ⟨hb14, h⟩ | ⟨hb14, h⟩
     ·
      refine s_true rfl hb14 ?_
      refine s_reg ?_
      iterate 2 refine v_op hT hC rfl rfl rfl rfl trivial ?_
      refine Vc.nil ?_
      refine aw_region ?_
      iterate 2 refine v_op hT hC rfl rfl rfl rfl trivial ?_
      refine Vc.nil ?_
      refine b_norm ?_
      injection h with h
      subst h
      refine m_norm ?_
      try dsimp only
      apply w_conv hC []
      ·
       exact co
      ·
       rfl
      ·
       decide
      ·
       rfl
     ·
      refine s_false rfl hb14 ?_
      refine aw_skip ?_
      refine b_norm ?_
      injection h with h
      subst h
      refine m_norm ?_
      try dsimp only
      apply w_conv hC []
      ·
       exact co
      ·
       rfl
      ·
       decide
      ·
       rfl
    refine aw_region ?_
    iterate 3 refine v_op hT hC rfl rfl rfl rfl trivial ?_
    refine Vc.nil ?_
    injection h with h
    subst h
    refine r_go ?_
    try dsimp only
    apply w_conv hC []
    ·
     exact co
    ·
     rfl
    ·
     decide
    ·
     rfl
   ·
    refine s_false rfl hb12 ?_
    refine aw_exit ?_
    refine t_exit ?_
    injection h with h
    subst h
    refine r_exit ?_
    refine o_out ?_
    try dsimp only
    apply w_conv hC []
    ·
     exact co
    ·
     rfl
    ·
     decide
    ·
     rfl
  refine t_norm ?_
  refine s_reg ?_
  iterate 4 refine v_op hT hC rfl rfl rfl rfl trivial ?_
  refine Vc.nil ?_
  refine aw_ret ?_
  injection h with h
  subst h
  exact ends (Weak.refl _) rfl trivial
def spec_FoldSe_res (r : (Int × Bool)) : AV := .tup [.sv (.int .i64 r.1), .sv (.bool r.2)]
def spec_FoldSe_obs (r : (Int × Bool)) : Objs := []
theorem spec_FoldSe_ac {p0 : Int} {r : (Int × Bool)} (h : spec_FoldSe p0 = some r) : AC Tryz.prog 252 [.sv (.int .i64 p0)] [] (spec_FoldSe_res r) (spec_FoldSe_obs r) := by
 refine ac_of_body hT Tryz.func252 rfl fun C hC => ?_
 unfold spec_FoldSe at h
 refine s_reg ?_
 iterate 2 refine v_op hT hC rfl rfl rfl rfl trivial ?_
 refine Vc.nil ?_
 refine s_in ?_
 refine s_reg ?_
 refine v_op hT hC rfl rfl rfl rfl trivial ?_
 obtain ⟨q1, hq, h⟩ := bnd_some h
 refine v_call hC [] rfl rfl rfl rfl Tryz.call46 (spec_l01In_ac hq) rfl (by decide) trivial rfl (.inl rfl) rfl ?_
 refine v_op hT hC rfl rfl rfl rfl trivial ?_
 refine Vc.nil ?_
 rcases sel_some h with ⟨hb1, h⟩ | ⟨hb1, h⟩
 ·
  refine s_true rfl hb1 ?_
  refine s_reg ?_
  iterate 2 refine v_op hT hC rfl rfl rfl rfl trivial ?_
  refine Vc.nil ?_
  refine aw_ret ?_
  refine t_ret ?_
  injection h with h
  subst h
  exact ends (Weak.refl _) rfl trivial
 ·
  refine s_false rfl hb1 ?_
  refine aw_skip ?_
  refine t_norm ?_
  refine s_in ?_
  refine s_reg ?_
  iterate 2 refine v_op hT hC rfl rfl rfl rfl trivial ?_
  refine Vc.nil ?_
  rcases sel_some h with ⟨hb2, h⟩ | ⟨hb2, h⟩
  ·
   refine s_true rfl hb2 ?_
   refine s_reg ?_
   iterate 5 refine v_op hT hC rfl rfl rfl rfl trivial ?_
   refine Vc.nil ?_
   refine aw_ret ?_
   refine t_ret ?_
   injection h with h
   subst h
   exact ends (Weak.refl _) rfl trivial
  ·
   refine s_false rfl hb2 ?_
   refine aw_skip ?_
   refine t_norm ?_
   refine s_reg ?_
   iterate 4 refine v_op hT hC rfl rfl rfl rfl trivial ?_
   refine Vc.nil ?_
   refine aw_ret ?_
   injection h with h
   subst h
   exact ends (Weak.refl _) rfl trivial
def spec_l03Se_res (r : ByteArray) : AV := .sv (.str r)
def spec_l03Se_obs (r : ByteArray) : Objs := []
theorem spec_l03Se_ac {p0 : Int} {r : ByteArray} (h : spec_l03Se p0 = some r) : AC Tryz.prog 245 [.sv (.int .i64 p0)] [] (spec_l03Se_res r) (spec_l03Se_obs r) := by
 refine ac_of_body hT Tryz.func245 rfl fun C hC => ?_
 unfold spec_l03Se at h
 refine s_reg ?_
 refine v_op hT hC rfl rfl rfl rfl trivial ?_
 refine Vc.nil ?_
 refine s_reg ?_
 refine v_op hT hC rfl rfl rfl rfl trivial ?_
 obtain ⟨q1, hq, h⟩ := bnd_some h
 refine v_call hC [] rfl rfl rfl rfl Tryz.call252 (spec_FoldSe_ac hq) rfl (by decide) trivial rfl (.inl rfl) rfl ?_
 iterate 5 refine v_op hT hC rfl rfl rfl rfl trivial ?_
 refine Vc.nil ?_
 refine s_reg ?_
 refine v_op hT hC rfl rfl rfl rfl trivial ?_
 obtain ⟨q2, hq, h⟩ := bnd_some h
 refine v_call hC [] rfl rfl rfl rfl Tryz.call244 (spec_l03Ue_ac hq) rfl (by decide) trivial rfl (.inl rfl) rfl ?_
 refine v_op hT hC rfl rfl rfl rfl trivial ?_
 refine Vc.nil ?_
 refine aw_ret ?_
 injection h with h
 subst h
 exact ends (Weak.refl _) rfl trivial
def spec_SeRow_res (r : (ByteArray × Bool)) : AV := .tup [.sv (.str r.1), .sv (.bool r.2)]
def spec_SeRow_obs (r : (ByteArray × Bool)) : Objs := []
theorem spec_SeRow_ac {p0 : Int} {r : (ByteArray × Bool)} (h : spec_SeRow p0 = some r) : AC Tryz.prog 219 [.sv (.int .i64 p0)] [] (spec_SeRow_res r) (spec_SeRow_obs r) := by
 refine ac_of_body hT Tryz.func219 rfl fun C hC => ?_
 unfold spec_SeRow at h
 refine s_reg ?_
 iterate 2 refine v_op hT hC rfl rfl rfl rfl trivial ?_
 refine Vc.nil ?_
 refine s_in ?_
 refine s_reg ?_
 refine v_op hT hC rfl rfl rfl rfl trivial ?_
 obtain ⟨q1, hq, h⟩ := bnd_some h
 refine v_call hC [] rfl rfl rfl rfl Tryz.call46 (spec_l01In_ac hq) rfl (by decide) trivial rfl (.inl rfl) rfl ?_
 refine v_op hT hC rfl rfl rfl rfl trivial ?_
 refine Vc.nil ?_
 rcases sel_some h with ⟨hb1, h⟩ | ⟨hb1, h⟩
 ·
  refine s_true rfl hb1 ?_
  refine s_reg ?_
  iterate 2 refine v_op hT hC rfl rfl rfl rfl trivial ?_
  refine Vc.nil ?_
  refine aw_ret ?_
  refine t_ret ?_
  injection h with h
  subst h
  exact ends (Weak.refl _) rfl trivial
 ·
  refine s_false rfl hb1 ?_
  refine aw_skip ?_
  refine t_norm ?_
  refine s_reg ?_
  refine v_op hT hC rfl rfl rfl rfl trivial ?_
  obtain ⟨q2, hq, h⟩ := bnd_some h
  refine v_call hC [] rfl rfl rfl rfl Tryz.call245 (spec_l03Se_ac hq) rfl (by decide) trivial rfl (.inl rfl) rfl ?_
  iterate 2 refine v_op hT hC rfl rfl rfl rfl trivial ?_
  refine Vc.nil ?_
  refine aw_ret ?_
  injection h with h
  subst h
  exact ends (Weak.refl _) rfl trivial
def spec_SeSize_res (r : Int) : AV := .sv (.int .i64 r)
def spec_SeSize_obs (r : Int) : Objs := []
theorem spec_SeSize_ac {p0 : Int} {r : Int} (h : spec_SeSize p0 = some r) : AC Tryz.prog 168 [.sv (.int .i64 p0)] [] (spec_SeSize_res r) (spec_SeSize_obs r) := by
 refine ac_of_body hT Tryz.func168 rfl fun C hC => ?_
 unfold spec_SeSize at h
 refine s_reg ?_
 refine v_op hT hC rfl rfl rfl rfl trivial ?_
 refine Vc.nil ?_
 refine s_reg ?_
 refine v_op hT hC rfl rfl rfl rfl trivial ?_
 obtain ⟨q1, hq, h⟩ := bnd_some h
 refine v_call hC [] rfl rfl rfl rfl Tryz.call219 (spec_SeRow_ac hq) rfl (by decide) trivial rfl (.inl rfl) rfl ?_
 iterate 5 refine v_op hT hC rfl rfl rfl rfl trivial ?_
 refine Vc.nil ?_
 refine s_reg ?_
 iterate 3 refine v_op hT hC rfl rfl rfl rfl trivial ?_
 refine Vc.nil ?_
 refine aw_ret ?_
 injection h with h
 subst h
 exact ends (Weak.refl _) rfl trivial
def spec_BestMove_res (r : (Int × Int × Int)) : AV := .tup [.sv (.int .i64 r.1), .sv (.int .i64 r.2.1), .sv (.int .i64 r.2.2)]
def spec_BestMove_obs (r : (Int × Int × Int)) : Objs := []
theorem spec_BestMove_ac {p0 : Pic} {p1 : (List Int)} {p2 : Int} {p3 : Int} {p4 : Int} {r : (Int × Int × Int)} (h : spec_BestMove p0 p1 p2 p3 p4 = some r) : AC Tryz.prog 110 [.agg [.sv (.int .i64 p0.Wide), .sv (.int .i64 p0.High), .sv (.str p0.Dots)], .sv (.ints .i64 p1), .sv (.int .i64 p2), .sv (.int .i64 p3), .sv (.int .i64 p4)] [] (spec_BestMove_res r) (spec_BestMove_obs r) := by
 refine ac_of_body hT Tryz.func110 rfl fun C hC => ?_
 unfold spec_BestMove at h
 refine s_reg ?_
 iterate 4 refine v_op hT hC rfl rfl rfl rfl trivial ?_
 refine Vc.nil ?_
 refine s_reg ?_
 refine v_op hT hC rfl rfl rfl rfl trivial ?_
 refine Vc.nil ?_
 refine s_reg ?_
 refine v_op hT hC rfl rfl rfl rfl trivial ?_
 refine Vc.nil ?_
 refine s_reg ?_
 refine v_op hT hC rfl rfl rfl rfl trivial ?_
 refine Vc.nil ?_
 refine s_in ?_
 refine live [1, 2, 3, 4, 5, 13, 14, 15] [80] (s' := [_, _, _, _, _, _, _, _]) (o' := [_]) rfl rfl ?_
 obtain ⟨v1, h1, h⟩ := bnd_some h
 refine aw_to ([(33, .sv (.bool v1))], []) ?_ ?_
 ·
  have h := h1
  refine aw_region ?_
  refine v_op hT hC rfl rfl rfl rfl trivial ?_
  obtain ⟨q2, hq, h⟩ := bnd_some h
  refine v_call hC [] rfl rfl rfl rfl Tryz.call44 (spec_l13Dots_ac hq) rfl (by decide) trivial rfl (.inl rfl) rfl ?_
  iterate 2 refine v_op hT hC rfl rfl rfl rfl trivial ?_
  rcases sel_some h with ⟨hb1, h⟩ | ⟨hb1, h⟩
  ·
   refine v_on hT hC rfl rfl rfl rfl (congrArg Bool.not hb1) rfl rfl rfl trivial ?_
   obtain ⟨q3, hq, h⟩ := bnd_some h
   refine v_call_on hC [] rfl rfl rfl rfl (congrArg Bool.not hb1) rfl rfl rfl Tryz.call46 (spec_l01In_ac hq) rfl (by decide) trivial rfl (.inl rfl) rfl ?_
   refine v_on hT hC rfl rfl rfl rfl (congrArg Bool.not hb1) rfl rfl rfl trivial ?_
   refine v_pick hC rfl rfl rfl (b := false) (congrArg Bool.not hb1) rfl rfl rfl trivial ?_
   refine v_op hT hC rfl rfl rfl rfl trivial ?_
   rcases sel_some h with ⟨hb2, h⟩ | ⟨hb2, h⟩
   ·
    iterate 3 refine v_on hT hC rfl rfl rfl rfl (congrArg Bool.not hb2) rfl rfl rfl trivial ?_
    obtain ⟨q4, hq, h⟩ := bnd_some h
    refine v_call_on hC [] rfl rfl rfl rfl (congrArg Bool.not hb2) rfl rfl rfl Tryz.call43 (spec_l13Fits_ac hq) rfl (by decide) trivial rfl (.inl rfl) rfl ?_
    refine v_on hT hC rfl rfl rfl rfl (congrArg Bool.not hb2) rfl rfl rfl trivial ?_
    refine v_pick hC rfl rfl rfl (b := false) (congrArg Bool.not hb2) rfl rfl rfl trivial ?_
    refine Vc.nil ?_
    injection h with h
    subst h
    refine m_norm ?_
    apply w_conv hC []
    ·
     exact co
    ·
     rfl
    ·
     decide
    ·
     rfl
   ·
    refine v_off hC rfl rfl rfl rfl (congrArg Bool.not hb2) rfl rfl ?_
    refine v_off hC rfl rfl rfl rfl (congrArg Bool.not hb2) rfl rfl ?_
    refine v_off hC rfl rfl rfl rfl (congrArg Bool.not hb2) rfl rfl ?_
    refine v_off hC rfl rfl rfl rfl (congrArg Bool.not hb2) rfl rfl ?_
    refine v_off hC rfl rfl rfl rfl (congrArg Bool.not hb2) rfl rfl ?_
    refine v_pick hC rfl rfl rfl (b := true) (congrArg Bool.not hb2) rfl rfl rfl trivial ?_
    refine Vc.nil ?_
    injection h with h
    subst h
    refine m_norm ?_
    apply w_conv hC []
    ·
     exact co
    ·
     rfl
    ·
     decide
    ·
     rfl
  ·
   refine v_off hC rfl rfl rfl rfl (congrArg Bool.not hb1) rfl rfl ?_
   refine v_off hC rfl rfl rfl rfl (congrArg Bool.not hb1) rfl rfl ?_
   refine v_off hC rfl rfl rfl rfl (congrArg Bool.not hb1) rfl rfl ?_
   refine v_pick hC rfl rfl rfl (b := true) (congrArg Bool.not hb1) rfl rfl rfl trivial ?_
   refine v_op hT hC rfl rfl rfl rfl trivial ?_
   refine v_off hC rfl rfl rfl rfl rfl rfl rfl ?_
   refine v_off hC rfl rfl rfl rfl rfl rfl rfl ?_
   refine v_off hC rfl rfl rfl rfl rfl rfl rfl ?_
   refine v_off hC rfl rfl rfl rfl rfl rfl rfl ?_
   refine v_off hC rfl rfl rfl rfl rfl rfl rfl ?_
   refine v_op hT hC rfl rfl rfl rfl trivial ?_
   refine Vc.nil ?_
   injection h with h
   subst h
   refine m_norm ?_
   apply w_conv hC []
   ·
    exact co
   ·
    rfl
   ·
    decide
   ·
    rfl
 rcases sel_some h with ⟨hb3, h⟩ | ⟨hb3, h⟩
 ·
  refine s_true rfl hb3 ?_
  refine s_reg ?_
  iterate 3 refine v_op hT hC rfl rfl rfl rfl trivial ?_
  refine Vc.nil ?_
  refine aw_ret ?_
  refine t_ret ?_
  injection h with h
  subst h
  exact ends (Weak.refl _) rfl trivial
 ·
  refine s_false rfl hb3 ?_
  refine aw_skip ?_
  refine t_norm ?_
  refine s_in ?_
  refine s_reg ?_
  iterate 3 refine v_op hT hC rfl rfl rfl rfl trivial ?_
  refine Vc.nil ?_
  refine live [1, 2, 3, 4, 5, 13, 14, 15, 16] [80] (s' := [_, _, _, _, _, _, _, _, _]) (o' := [_]) rfl rfl ?_
  obtain ⟨v60, hl, h⟩ := bnd_some h
  refine s_loop (fun v32 => ([(13, .sv (.int .i64 v32.1)), (14, .sv (.int .i64 v32.2.1)), (15, .sv (.int .i64 v32.2.2.1)), (16, .sv (.int .i64 v32.2.2.2))], [])) (fun v60 => ([(13, .sv (.int .i64 v60.1)), (14, .sv (.int .i64 v60.2.1)), (15, .sv (.int .i64 v60.2.2)), (1, .any), (2, .any), (3, .any), (4, .any), (5, .any), (16, .any)], [(80, none)])) hl ?_ ?_ ?_
  ·
   try dsimp only
   apply w_conv hC []
   ·
    exact co
   ·
    rfl
   ·
    decide
   ·
    rfl
  ·
   intro v32 s hs
   have h := hs
   unfold spec_BestMove_l12 at h
   refine s_in ?_
   refine s_reg ?_
   iterate 3 refine v_op hT hC rfl rfl rfl rfl trivial ?_
   refine Vc.nil ?_
   rcases sel_some h with ⟨hb30, h⟩ | ⟨hb30, h⟩
   ·
    refine s_true rfl hb30 ?_
    refine aw_skip ?_
    refine t_norm ?_
    refine s_in ?_
    refine s_block ?_
    refine s_reg ?_
    iterate 3 refine v_op hT hC rfl rfl rfl rfl trivial ?_
    refine Vc.nil ?_
    refine live [1, 2, 3, 4, 5, 13, 14, 15, 16, 17] [80] (s' := [_, _, _, _, _, _, _, _, _, _]) (o' := [_]) rfl rfl ?_
    obtain ⟨v78, hl, h⟩ := bnd_some h
    refine s_loop (fun v69 => ([(13, .sv (.int .i64 v69.1)), (14, .sv (.int .i64 v69.2.1)), (15, .sv (.int .i64 v69.2.2.1)), (17, .sv (.int .i64 v69.2.2.2))], [])) (fun v78 => ([(13, .sv (.int .i64 v78.1)), (14, .sv (.int .i64 v78.2.1)), (15, .sv (.int .i64 v78.2.2)), (17, .any)], [])) hl ?_ ?_ ?_
    ·
     try dsimp only
     apply w_conv hC []
     ·
      exact co
     ·
      rfl
     ·
      decide
     ·
      rfl
    ·
     intro v69 s hs
     have h := hs
     unfold spec_BestMove_l14 at h
     refine s_in ?_
     refine s_reg ?_
     iterate 3 refine v_op hT hC rfl rfl rfl rfl trivial ?_
     refine Vc.nil ?_
     rcases sel_some h with ⟨hb39, h⟩ | ⟨hb39, h⟩
     ·
      refine s_true rfl hb39 ?_
      refine aw_skip ?_
      refine t_norm ?_
      refine live [1, 2, 3, 4, 5, 13, 14, 15, 16, 17] [80] (s' := [_, _, _, _, _, _, _, _, _, _]) (o' := [_]) rfl rfl ?_
      obtain ⟨v79, h1, h⟩ := bnd_some h
      refine aw_to ([(13, .sv (.int .i64 v79.1)), (14, .sv (.int .i64 v79.2.1)), (15, .sv (.int .i64 v79.2.2))], []) ?_ ?_
      ·
       have h := h1
       refine s_block ?_
       refine s_in ?_
       refine s_reg ?_
       iterate 7 refine v_op hT hC rfl rfl rfl rfl trivial ?_
       obtain ⟨q80, hq, h⟩ := bnd_some h
       refine v_call hC [] rfl rfl rfl rfl Tryz.call105 (spec_l12Within_ac hq) rfl (by decide) trivial rfl (.inl rfl) rfl ?_
       refine v_op hT hC rfl rfl rfl rfl trivial ?_
       refine Vc.nil ?_
       rcases sel_some h with ⟨hb40, h⟩ | ⟨hb40, h⟩
       ·
        refine s_true rfl hb40 ?_
        refine aw_exit ?_
        refine t_exit ?_
        refine b_exit ?_
        injection h with h
        subst h
        refine m_norm ?_
        try dsimp only
        apply w_conv hC []
        ·
         exact co
        ·
         rfl
        ·
         decide
        ·
         rfl
       ·
        refine s_false rfl hb40 ?_
        refine aw_skip ?_
        refine t_norm ?_
        refine s_reg ?_
        iterate 8 refine v_op hT hC rfl rfl rfl rfl trivial ?_
        obtain ⟨q81, hq, h⟩ := bnd_some h
        refine v_call hC [(16, 1040)] rfl rfl rfl rfl Tryz.call67 (spec_BlockOf_ac hq) rfl (by decide) trivial rfl (.inl rfl) rfl ?_
        obtain ⟨q82, hq, h⟩ := bnd_some h
        refine v_call hC [] rfl rfl rfl rfl Tryz.call166 (spec_GapOf_ac hq) rfl (by decide) trivial rfl (.inr ⟨rfl, trivial⟩) rfl ?_
        refine v_op hT hC rfl rfl rfl rfl trivial ?_
        obtain ⟨q83, hq, h⟩ := bnd_some h
        refine v_call hC [] rfl rfl rfl rfl Tryz.call168 (spec_SeSize_ac hq) rfl (by decide) trivial rfl (.inl rfl) rfl ?_
        iterate 2 refine v_op hT hC rfl rfl rfl rfl trivial ?_
        obtain ⟨q84, hq, h⟩ := bnd_some h
        refine v_call hC [] rfl rfl rfl rfl Tryz.call168 (spec_SeSize_ac hq) rfl (by decide) trivial rfl (.inl rfl) rfl ?_
        iterate 2 refine v_op hT hC rfl rfl rfl rfl trivial ?_
        refine Vc.nil ?_
        refine live [1, 2, 3, 4, 5, 13, 14, 15, 16, 17, 18] [80] (s' := [_, _, _, _, _, _, _, _, _, _, _]) (o' := [_]) rfl rfl ?_
        obtain ⟨v85, h1, h⟩ := bnd_some h
        refine aw_to ([(79, .sv (.bool v85))], []) ?_ ?_
        ·
         have h := h1
         refine aw_region ?_
         iterate 3 refine v_op hT hC rfl rfl rfl rfl trivial ?_
         rcases sel_some h with ⟨hb41, h⟩ | ⟨hb41, h⟩
         ·
          refine v_off hC rfl rfl rfl rfl hb41 rfl rfl ?_
          refine v_off hC rfl rfl rfl rfl hb41 rfl rfl ?_
          refine v_off hC rfl rfl rfl rfl hb41 rfl rfl ?_
          refine v_pick hC rfl rfl rfl (b := true) hb41 rfl rfl rfl trivial ?_
          refine Vc.nil ?_
          injection h with h
          subst h
          refine m_norm ?_
          apply w_conv hC []
          ·
           exact co
          ·
           rfl
          ·
           decide
          ·
           rfl
         ·
          iterate 3 refine v_on hT hC rfl rfl rfl rfl hb41 rfl rfl rfl trivial ?_
          refine v_pick hC rfl rfl rfl (b := false) hb41 rfl rfl rfl trivial ?_
          refine Vc.nil ?_
          injection h with h
          subst h
          refine m_norm ?_
          apply w_conv hC []
          ·
           exact co
          ·
           rfl
          ·
           decide
          ·
           rfl
        rcases sel_some h with ⟨hb42, h⟩ | ⟨hb42, h⟩
        ·
         refine s_true rfl hb42 ?_
         refine s_reg ?_
         iterate 2 refine v_op hT hC rfl rfl rfl rfl trivial ?_
         refine Vc.nil ?_
         refine s_reg ?_
         iterate 2 refine v_op hT hC rfl rfl rfl rfl trivial ?_
         refine Vc.nil ?_
         refine aw_region ?_
         iterate 2 refine v_op hT hC rfl rfl rfl rfl trivial ?_
         refine Vc.nil ?_
         refine b_norm ?_
         injection h with h
         subst h
         refine m_norm ?_
         try dsimp only
         apply w_conv hC []
         ·
          exact co
         ·
          rfl
         ·
          decide
         ·
          rfl
        ·
         refine s_false rfl hb42 ?_
         refine aw_skip ?_
         refine b_norm ?_
         injection h with h
         subst h
         refine m_norm ?_
         try dsimp only
         apply w_conv hC []
         ·
          exact co
         ·
          rfl
         ·
          decide
         ·
          rfl
      refine aw_region ?_
      iterate 3 refine v_op hT hC rfl rfl rfl rfl trivial ?_
      refine Vc.nil ?_
      injection h with h
      subst h
      refine r_go ?_
      try dsimp only
      apply w_conv hC []
      ·
       exact co
      ·
       rfl
      ·
       decide
      ·
       rfl
     ·
      refine s_false rfl hb39 ?_
      refine aw_exit ?_
      refine t_exit ?_
      injection h with h
      subst h
      refine r_exit ?_
      refine o_out ?_
      try dsimp only
      apply w_conv hC []
      ·
       exact co
      ·
       rfl
      ·
       decide
      ·
       rfl
    refine b_norm ?_
    refine t_norm ?_
    refine aw_region ?_
    iterate 3 refine v_op hT hC rfl rfl rfl rfl trivial ?_
    refine Vc.nil ?_
    injection h with h
    subst h
    refine r_go ?_
    try dsimp only
    apply w_conv hC []
    ·
     exact co
    ·
     rfl
    ·
     decide
    ·
     rfl
   ·
    refine s_false rfl hb30 ?_
    refine aw_exit ?_
    refine t_exit ?_
    injection h with h
    subst h
    refine r_exit ?_
    refine o_out ?_
    try dsimp only
    apply w_conv hC []
    ·
     exact co
    ·
     rfl
    ·
     decide
    ·
     rfl
  refine t_norm ?_
  refine s_reg ?_
  iterate 6 refine v_op hT hC rfl rfl rfl rfl trivial ?_
  refine Vc.nil ?_
  refine aw_ret ?_
  injection h with h
  subst h
  exact ends (Weak.refl _) rfl trivial
def spec_ScanAt_res (r : Int) : AV := .sv (.int .i64 r)
def spec_ScanAt_obs (r : Int) : Objs := []
theorem spec_ScanAt_ac {p0 : Int} {p1 : Int} {r : Int} (h : spec_ScanAt p0 p1 = some r) : AC Tryz.prog 220 [.sv (.int .i64 p0), .sv (.int .i64 p1)] [] (spec_ScanAt_res r) (spec_ScanAt_obs r) := by
 refine ac_of_body hT Tryz.func220 rfl fun C hC => ?_
 unfold spec_ScanAt at h
 refine s_reg ?_
 refine v_op hT hC rfl rfl rfl rfl trivial ?_
 refine Vc.nil ?_
 refine s_in ?_
 refine live [0, 1] [] (s' := [_, _]) (o' := []) rfl rfl ?_
 obtain ⟨v1, h1, h⟩ := bnd_some h
 refine aw_to ([(25, .sv (.bool v1))], []) ?_ ?_
 ·
  have h := h1
  refine aw_region ?_
  iterate 3 refine v_op hT hC rfl rfl rfl rfl trivial ?_
  rcases sel_some h with ⟨hb1, h⟩ | ⟨hb1, h⟩
  ·
   iterate 2 refine v_on hT hC rfl rfl rfl rfl hb1 rfl rfl rfl trivial ?_
   refine v_pick hC rfl rfl rfl (b := true) hb1 rfl rfl rfl trivial ?_
   refine v_op hT hC rfl rfl rfl rfl trivial ?_
   rcases sel_some h with ⟨hb2, h⟩ | ⟨hb2, h⟩
   ·
    refine v_off hC rfl rfl rfl rfl hb2 rfl rfl ?_
    refine v_off hC rfl rfl rfl rfl hb2 rfl rfl ?_
    refine v_pick hC rfl rfl rfl (b := true) hb2 rfl rfl rfl trivial ?_
    refine v_op hT hC rfl rfl rfl rfl trivial ?_
    refine v_off hC rfl rfl rfl rfl rfl rfl rfl ?_
    refine v_off hC rfl rfl rfl rfl rfl rfl rfl ?_
    refine v_off hC rfl rfl rfl rfl rfl rfl rfl ?_
    refine v_off hC rfl rfl rfl rfl rfl rfl rfl ?_
    refine v_off hC rfl rfl rfl rfl rfl rfl rfl ?_
    refine v_op hT hC rfl rfl rfl rfl trivial ?_
    refine Vc.nil ?_
    injection h with h
    subst h
    refine m_norm ?_
    apply w_conv hC []
    ·
     exact co
    ·
     rfl
    ·
     decide
    ·
     rfl
   ·
    iterate 2 refine v_on hT hC rfl rfl rfl rfl hb2 rfl rfl rfl trivial ?_
    refine v_pick hC rfl rfl rfl (b := false) hb2 rfl rfl rfl trivial ?_
    refine v_op hT hC rfl rfl rfl rfl trivial ?_
    rcases sel_some h with ⟨hb3, h⟩ | ⟨hb3, h⟩
    ·
     refine v_off hC rfl rfl rfl rfl hb3 rfl rfl ?_
     refine v_off hC rfl rfl rfl rfl hb3 rfl rfl ?_
     refine v_off hC rfl rfl rfl rfl hb3 rfl rfl ?_
     refine v_off hC rfl rfl rfl rfl hb3 rfl rfl ?_
     refine v_off hC rfl rfl rfl rfl hb3 rfl rfl ?_
     refine v_pick hC rfl rfl rfl (b := true) hb3 rfl rfl rfl trivial ?_
     refine Vc.nil ?_
     injection h with h
     subst h
     refine m_norm ?_
     apply w_conv hC []
     ·
      exact co
     ·
      rfl
     ·
      decide
     ·
      rfl
    ·
     iterate 5 refine v_on hT hC rfl rfl rfl rfl hb3 rfl rfl rfl trivial ?_
     refine v_pick hC rfl rfl rfl (b := false) hb3 rfl rfl rfl trivial ?_
     refine Vc.nil ?_
     injection h with h
     subst h
     refine m_norm ?_
     apply w_conv hC []
     ·
      exact co
     ·
      rfl
     ·
      decide
     ·
      rfl
  ·
   refine v_off hC rfl rfl rfl rfl hb1 rfl rfl ?_
   refine v_off hC rfl rfl rfl rfl hb1 rfl rfl ?_
   refine v_pick hC rfl rfl rfl (b := false) hb1 rfl rfl rfl trivial ?_
   refine v_op hT hC rfl rfl rfl rfl trivial ?_
   iterate 2 refine v_on hT hC rfl rfl rfl rfl rfl rfl rfl rfl trivial ?_
   iterate 2 refine v_op hT hC rfl rfl rfl rfl trivial ?_
   rcases sel_some h with ⟨hb4, h⟩ | ⟨hb4, h⟩
   ·
    refine v_off hC rfl rfl rfl rfl hb4 rfl rfl ?_
    refine v_off hC rfl rfl rfl rfl hb4 rfl rfl ?_
    refine v_off hC rfl rfl rfl rfl hb4 rfl rfl ?_
    refine v_off hC rfl rfl rfl rfl hb4 rfl rfl ?_
    refine v_off hC rfl rfl rfl rfl hb4 rfl rfl ?_
    refine v_pick hC rfl rfl rfl (b := true) hb4 rfl rfl rfl trivial ?_
    refine Vc.nil ?_
    injection h with h
    subst h
    refine m_norm ?_
    apply w_conv hC []
    ·
     exact co
    ·
     rfl
    ·
     decide
    ·
     rfl
   ·
    iterate 5 refine v_on hT hC rfl rfl rfl rfl hb4 rfl rfl rfl trivial ?_
    refine v_pick hC rfl rfl rfl (b := false) hb4 rfl rfl rfl trivial ?_
    refine Vc.nil ?_
    injection h with h
    subst h
    refine m_norm ?_
    apply w_conv hC []
    ·
     exact co
    ·
     rfl
    ·
     decide
    ·
     rfl
 rcases sel_some h with ⟨hb5, h⟩ | ⟨hb5, h⟩
 ·
  refine s_true rfl hb5 ?_
  refine s_reg ?_
  refine v_op hT hC rfl rfl rfl rfl trivial ?_
  refine Vc.nil ?_
  refine aw_ret ?_
  refine t_ret ?_
  injection h with h
  subst h
  exact ends (Weak.refl _) rfl trivial
 ·
  refine s_false rfl hb5 ?_
  refine aw_skip ?_
  refine t_norm ?_
  refine s_reg ?_
  refine v_op hT hC rfl rfl rfl rfl trivial ?_
  refine Vc.nil ?_
  refine s_in ?_
  refine s_reg ?_
  refine v_op hT hC rfl rfl rfl rfl trivial ?_
  refine Vc.nil ?_
  refine live [0, 1, 5, 6] [] (s' := [_, _, _, _]) (o' := []) rfl rfl ?_
  obtain ⟨o48, hl, h⟩ := bnd_some h
  refine s_loopR (fun v17 => ([(5, .sv (.int .i64 v17.1)), (6, .sv (.int .i64 v17.2))], [])) (fun v33 => ([(0, .any), (1, .any), (5, .any), (6, .any)], [])) (fun r => EndsA C T Tryz.f220.results.toList (spec_ScanAt_res r) (spec_ScanAt_obs r)) hl ?_ ?_ ?_ ?_
  ·
   try dsimp only
   apply w_conv hC []
   ·
    exact co
   ·
    rfl
   ·
    decide
   ·
    rfl
  ·
   intro v17 s hs
   have h := hs
   unfold spec_ScanAt_l12 at h
   refine s_in ?_
   refine s_reg ?_
   iterate 5 refine v_op hT hC rfl rfl rfl rfl trivial ?_
   refine Vc.nil ?_
   rcases sel_some h with ⟨hb32, h⟩ | ⟨hb32, h⟩
   ·
    refine s_true rfl hb32 ?_
    refine aw_skip ?_
    refine t_norm ?_
    refine s_in ?_
    refine s_block ?_
    refine s_reg ?_
    refine v_op hT hC rfl rfl rfl rfl trivial ?_
    refine Vc.nil ?_
    refine live [0, 1, 5, 6, 7] [] (s' := [_, _, _, _, _]) (o' := []) rfl rfl ?_
    obtain ⟨o47, hl, h⟩ := bnd_some h
    refine s_loopR (fun v38 => ([(5, .sv (.int .i64 v38.1)), (7, .sv (.int .i64 v38.2))], [])) (fun v43 => ([(5, .sv (.int .i64 v43)), (7, .any)], [])) (fun r => EndsA C T Tryz.f220.results.toList (spec_ScanAt_res r) (spec_ScanAt_obs r)) hl ?_ ?_ ?_ ?_
    ·
     try dsimp only
     apply w_conv hC []
     ·
      exact co
     ·
      rfl
     ·
      decide
     ·
      rfl
    ·
     intro v38 s hs
     have h := hs
     unfold spec_ScanAt_l14 at h
     refine s_in ?_
     refine s_reg ?_
     iterate 3 refine v_op hT hC rfl rfl rfl rfl trivial ?_
     refine Vc.nil ?_
     rcases sel_some h with ⟨hb41, h⟩ | ⟨hb41, h⟩
     ·
      refine s_true rfl hb41 ?_
      refine aw_skip ?_
      refine t_norm ?_
      refine live [0, 1, 5, 6, 7] [] (s' := [_, _, _, _, _]) (o' := []) rfl rfl ?_
      refine aw_joinH h (fun (v44 : Int) => ([(5, .sv (.int .i64 v44))], [])) (fun v44 h => ?_) (fun h => ?_)
      ·
       refine aw_region ?_
       iterate 3 refine v_op hT hC rfl rfl rfl rfl trivial ?_
       refine Vc.nil ?_
       injection h with h
       subst h
       refine r_go ?_
       try dsimp only
       apply w_conv hC []
       ·
        exact co
       ·
        rfl
       ·
        decide
       ·
        rfl
      refine s_block ?_
      refine s_reg ?_
      iterate 2 refine v_op hT hC rfl rfl rfl rfl trivial ?_
      refine Vc.nil ?_
      refine live [0, 1, 5, 6, 7, 8] [] (s' := [_, _, _, _, _, _]) (o' := []) rfl rfl ?_
      obtain ⟨v45, h1, h⟩ := bnd_some h
      refine aw_to ([(8, .sv (.int .i64 v45))], []) ?_ ?_
      ·
       have h := h1
       refine s_reg ?_
       refine v_op hT hC rfl rfl rfl rfl trivial ?_
       obtain ⟨hq, h⟩ := req_some h
       refine v_op hT hC rfl rfl rfl rfl hq ?_
       refine v_op hT hC rfl rfl rfl rfl trivial ?_
       refine Vc.nil ?_
       rcases sel_some h with ⟨hb42, h⟩ | ⟨hb42, h⟩
       ·
        refine s_true rfl hb42 ?_
        refine aw_region ?_
        iterate 5 refine v_op hT hC rfl rfl rfl rfl trivial ?_
        refine Vc.nil ?_
        injection h with h
        subst h
        refine m_norm ?_
        apply w_conv hC []
        ·
         exact co
        ·
         rfl
        ·
         decide
        ·
         rfl
       ·
        refine s_false rfl hb42 ?_
        refine aw_skip ?_
        injection h with h
        subst h
        refine m_norm ?_
        apply w_conv hC []
        ·
         exact co
        ·
         rfl
        ·
         decide
        ·
         rfl
      refine s_in ?_
      refine s_reg ?_
      iterate 5 refine v_op hT hC rfl rfl rfl rfl trivial ?_
      obtain ⟨q46, hq, h⟩ := bnd_some h
      refine v_call hC [] rfl rfl rfl rfl Tryz.call46 (spec_l01In_ac hq) rfl (by decide) trivial rfl (.inl rfl) rfl ?_
      refine v_op hT hC rfl rfl rfl rfl trivial ?_
      refine Vc.nil ?_
      rcases sel_some h with ⟨hb43, h⟩ | ⟨hb43, h⟩
      ·
       refine s_true rfl hb43 ?_
       refine aw_exit ?_
       refine t_exit ?_
       refine b_exit ?_
       refine j_norm v38.1 h ?_
       apply w_conv hC []
       ·
        exact co
       ·
        rfl
       ·
        decide
       ·
        rfl
      ·
       refine s_false rfl hb43 ?_
       refine aw_skip ?_
       refine t_norm ?_
       refine s_in ?_
       refine s_reg ?_
       iterate 3 refine v_op hT hC rfl rfl rfl rfl trivial ?_
       refine Vc.nil ?_
       rcases sel_some h with ⟨hb44, h⟩ | ⟨hb44, h⟩
       ·
        refine s_true rfl hb44 ?_
        refine s_reg ?_
        iterate 8 refine v_op hT hC rfl rfl rfl rfl trivial ?_
        refine Vc.nil ?_
        refine aw_ret ?_
        refine t_ret ?_
        refine b_ret ?_
        refine j_ret ?_
        injection h with h
        subst h
        refine r_ret ?_
        refine o_ret ?_
        exact ends (Weak.refl _) rfl trivial
       ·
        refine s_false rfl hb44 ?_
        refine aw_skip ?_
        refine t_norm ?_
        refine aw_region ?_
        iterate 3 refine v_op hT hC rfl rfl rfl rfl trivial ?_
        refine Vc.nil ?_
        refine b_norm ?_
        refine j_norm (wrapK .i64 (v38.1 + 1)) h ?_
        apply w_conv hC []
        ·
         exact co
        ·
         rfl
        ·
         decide
        ·
         rfl
     ·
      refine s_false rfl hb41 ?_
      refine aw_exit ?_
      refine t_exit ?_
      injection h with h
      subst h
      refine r_exit ?_
      refine o_both ?_
      apply w_conv hC []
      ·
       exact co
      ·
       rfl
      ·
       decide
      ·
       rfl
    ·
     intro v43 e
     subst e
     refine b_norm ?_
     refine t_norm ?_
     refine aw_region ?_
     iterate 3 refine v_op hT hC rfl rfl rfl rfl trivial ?_
     refine Vc.nil ?_
     injection h with h
     subst h
     refine r_go ?_
     try dsimp only
     apply w_conv hC []
     ·
      exact co
     ·
      rfl
     ·
      decide
     ·
      rfl
    ·
     intro r' σ' e hE
     subst e
     injection h with h
     subst h
     refine b_ret ?_
     refine t_ret ?_
     refine r_ret ?_
     refine o_ret ?_
     exact hE
   ·
    refine s_false rfl hb32 ?_
    refine aw_exit ?_
    refine t_exit ?_
    injection h with h
    subst h
    refine r_exit ?_
    refine o_both ?_
    apply w_conv hC []
    ·
     exact co
    ·
     rfl
    ·
     decide
    ·
     rfl
  ·
   intro v33 e
   subst e
   refine t_norm ?_
   refine s_reg ?_
   refine v_op hT hC rfl rfl rfl rfl trivial ?_
   refine Vc.nil ?_
   refine aw_ret ?_
   injection h with h
   subst h
   exact ends (Weak.refl _) rfl trivial
  ·
   intro r' σ' e hE
   subst e
   injection h with h
   subst h
   refine t_ret ?_
   exact hE
def spec_Scanned_res (r : ((List Int) × Bool)) : AV := .tup [.own 16, .sv (.bool r.2)]
def spec_Scanned_obs (r : ((List Int) × Bool)) : Objs := [(16, .ints .i64 r.1)]
theorem spec_Scanned_ac {p0 : Int} {p1 : (List Int)} {r : ((List Int) × Bool)} (h : spec_Scanned p0 p1 = some r) : AC Tryz.prog 170 [.sv (.int .i64 p0), .sv (.ints .i64 p1)] [] (spec_Scanned_res r) (spec_Scanned_obs r) := by
 refine ac_of_body hT Tryz.func170 rfl fun C hC => ?_
 unfold spec_Scanned at h
 refine s_reg ?_
 iterate 2 refine v_op hT hC rfl rfl rfl rfl trivial ?_
 refine Vc.nil ?_
 refine s_reg ?_
 iterate 2 refine v_op hT hC rfl rfl rfl rfl trivial ?_
 refine Vc.nil ?_
 refine s_in ?_
 refine live [0, 1, 6] [128] (s' := [_, _, _]) (o' := [_]) rfl rfl ?_
 obtain ⟨v1, h1, h⟩ := bnd_some h
 refine aw_to ([(22, .sv (.bool v1))], []) ?_ ?_
 ·
  have h := h1
  refine aw_region ?_
  iterate 3 refine v_op hT hC rfl rfl rfl rfl trivial ?_
  rcases sel_some h with ⟨hb1, h⟩ | ⟨hb1, h⟩
  ·
   iterate 2 refine v_on hT hC rfl rfl rfl rfl hb1 rfl rfl rfl trivial ?_
   refine v_pick hC rfl rfl rfl (b := true) hb1 rfl rfl rfl trivial ?_
   refine v_op hT hC rfl rfl rfl rfl trivial ?_
   rcases sel_some h with ⟨hb2, h⟩ | ⟨hb2, h⟩
   ·
    refine v_off hC rfl rfl rfl rfl hb2 rfl rfl ?_
    refine v_off hC rfl rfl rfl rfl hb2 rfl rfl ?_
    refine v_off hC rfl rfl rfl rfl hb2 rfl rfl ?_
    refine v_off hC rfl rfl rfl rfl hb2 rfl rfl ?_
    refine v_off hC rfl rfl rfl rfl hb2 rfl rfl ?_
    refine v_off hC rfl rfl rfl rfl hb2 rfl rfl ?_
    refine v_pick hC rfl rfl rfl (b := true) hb2 rfl rfl rfl trivial ?_
    refine Vc.nil ?_
    injection h with h
    subst h
    refine m_norm ?_
    apply w_conv hC []
    ·
     exact co
    ·
     rfl
    ·
     decide
    ·
     rfl
   ·
    iterate 6 refine v_on hT hC rfl rfl rfl rfl hb2 rfl rfl rfl trivial ?_
    refine v_pick hC rfl rfl rfl (b := false) hb2 rfl rfl rfl trivial ?_
    refine Vc.nil ?_
    injection h with h
    subst h
    refine m_norm ?_
    apply w_conv hC []
    ·
     exact co
    ·
     rfl
    ·
     decide
    ·
     rfl
  ·
   refine v_off hC rfl rfl rfl rfl hb1 rfl rfl ?_
   refine v_off hC rfl rfl rfl rfl hb1 rfl rfl ?_
   refine v_pick hC rfl rfl rfl (b := false) hb1 rfl rfl rfl trivial ?_
   refine v_op hT hC rfl rfl rfl rfl trivial ?_
   iterate 6 refine v_on hT hC rfl rfl rfl rfl rfl rfl rfl rfl trivial ?_
   refine v_op hT hC rfl rfl rfl rfl trivial ?_
   refine Vc.nil ?_
   injection h with h
   subst h
   refine m_norm ?_
   apply w_conv hC []
   ·
    exact co
   ·
    rfl
   ·
    decide
   ·
    rfl
 rcases sel_some h with ⟨hb3, h⟩ | ⟨hb3, h⟩
 ·
  refine s_true rfl hb3 ?_
  refine s_reg ?_
  iterate 3 refine v_op hT hC rfl rfl rfl rfl trivial ?_
  refine Vc.nil ?_
  refine aw_ret ?_
  refine t_ret ?_
  injection h with h
  subst h
  refine ends (τ := ⟨[(4, .own 16), (5, .sv (.bool false))], [(16, some (.ints .i64 ([] : List Int)))]⟩) ?_ rfl ⟨rfl, trivial⟩
  apply w_conv hC [(16, 128)]
  ·
   exact co
  ·
   rfl
  ·
   decide
  ·
   rfl
 ·
  refine s_false rfl hb3 ?_
  refine aw_skip ?_
  refine t_norm ?_
  refine s_in ?_
  refine s_reg ?_
  refine v_op hT hC rfl rfl rfl rfl trivial ?_
  refine Vc.nil ?_
  refine live [0, 1, 6, 7] [128] (s' := [_, _, _, _]) (o' := [_]) rfl rfl ?_
  obtain ⟨v7, hl, h⟩ := bnd_some h
  refine s_loop (fun v4 => ([(7, .sv (.int .i64 v4.1))], [(128, some (.ints .i64 v4.2))])) (fun v7 => ([(0, .any), (1, .any), (7, .any)], [(128, some (.ints .i64 v7))])) hl ?_ ?_ ?_
  ·
   try dsimp only
   apply w_conv hC []
   ·
    exact co
   ·
    rfl
   ·
    decide
   ·
    rfl
  ·
   intro v4 s hs
   have h := hs
   unfold spec_Scanned_l2 at h
   refine s_in ?_
   refine s_reg ?_
   iterate 5 refine v_op hT hC rfl rfl rfl rfl trivial ?_
   refine Vc.nil ?_
   rcases sel_some h with ⟨hb6, h⟩ | ⟨hb6, h⟩
   ·
    refine s_true rfl hb6 ?_
    refine aw_skip ?_
    refine t_norm ?_
    refine s_in ?_
    refine s_block ?_
    refine aw_region ?_
    iterate 4 refine v_op hT hC rfl rfl rfl rfl trivial ?_
    obtain ⟨q8, hq, h⟩ := bnd_some h
    refine v_call hC [] rfl rfl rfl rfl Tryz.call220 (spec_ScanAt_ac hq) rfl (by decide) trivial rfl (.inl rfl) rfl ?_
    obtain ⟨hq, h⟩ := req_some h
    refine v_op hT hC rfl rfl rfl rfl hq ?_
    iterate 2 refine v_op hT hC rfl rfl rfl rfl trivial ?_
    obtain ⟨hq, h⟩ := req_some h
    refine v_op hT hC rfl rfl rfl rfl ⟨trivial, hq⟩ ?_
    refine v_op hT hC rfl rfl rfl rfl trivial ?_
    refine Vc.nil ?_
    refine b_norm ?_
    refine t_norm ?_
    refine aw_region ?_
    iterate 3 refine v_op hT hC rfl rfl rfl rfl trivial ?_
    refine Vc.nil ?_
    injection h with h
    subst h
    refine r_go ?_
    try dsimp only
    apply w_conv hC [(128, 624)]
    ·
     exact co
    ·
     rfl
    ·
     decide
    ·
     rfl
   ·
    refine s_false rfl hb6 ?_
    refine aw_exit ?_
    refine t_exit ?_
    injection h with h
    subst h
    refine r_exit ?_
    refine o_out ?_
    apply w_conv hC []
    ·
     exact co
    ·
     rfl
    ·
     decide
    ·
     rfl
  refine t_norm ?_
  refine s_reg ?_
  iterate 3 refine v_op hT hC rfl rfl rfl rfl trivial ?_
  refine Vc.nil ?_
  refine aw_ret ?_
  injection h with h
  subst h
  refine ends (τ := ⟨[(4, .own 16), (5, .sv (.bool true))], [(16, some (.ints .i64 v7))]⟩) ?_ rfl ⟨rfl, trivial⟩
  apply w_conv hC [(16, 128)]
  ·
   exact co
  ·
   rfl
  ·
   decide
  ·
   rfl
def spec_SignOf_res (r : Int) : AV := .sv (.int .i64 r)
def spec_SignOf_obs (r : Int) : Objs := []
theorem spec_SignOf_ac {p0 : Int} {p1 : Int} {r : Int} (h : spec_SignOf p0 p1 = some r) : AC Tryz.prog 247 [.sv (.int .i64 p0), .sv (.int .i64 p1)] [] (spec_SignOf_res r) (spec_SignOf_obs r) := by
 refine ac_of_body hT Tryz.func247 rfl fun C hC => ?_
 unfold spec_SignOf at h
 refine s_reg ?_
 refine v_op hT hC rfl rfl rfl rfl trivial ?_
 refine Vc.nil ?_
 refine s_in ?_
 refine live [0, 1] [] (s' := [_, _]) (o' := []) rfl rfl ?_
 obtain ⟨v1, h1, h⟩ := bnd_some h
 refine aw_to ([(14, .sv (.bool v1))], []) ?_ ?_
 ·
  have h := h1
  refine aw_region ?_
  refine v_op hT hC rfl rfl rfl rfl trivial ?_
  obtain ⟨q2, hq, h⟩ := bnd_some h
  refine v_call hC [] rfl rfl rfl rfl Tryz.call46 (spec_l01In_ac hq) rfl (by decide) trivial rfl (.inl rfl) rfl ?_
  iterate 2 refine v_op hT hC rfl rfl rfl rfl trivial ?_
  rcases sel_some h with ⟨hb1, h⟩ | ⟨hb1, h⟩
  ·
   refine v_on hT hC rfl rfl rfl rfl (congrArg Bool.not hb1) rfl rfl rfl trivial ?_
   obtain ⟨q3, hq, h⟩ := bnd_some h
   refine v_call_on hC [] rfl rfl rfl rfl (congrArg Bool.not hb1) rfl rfl rfl Tryz.call46 (spec_l01In_ac hq) rfl (by decide) trivial rfl (.inl rfl) rfl ?_
   refine v_on hT hC rfl rfl rfl rfl (congrArg Bool.not hb1) rfl rfl rfl trivial ?_
   refine v_pick hC rfl rfl rfl (b := false) (congrArg Bool.not hb1) rfl rfl rfl trivial ?_
   refine Vc.nil ?_
   injection h with h
   subst h
   refine m_norm ?_
   apply w_conv hC []
   ·
    exact co
   ·
    rfl
   ·
    decide
   ·
    rfl
  ·
   refine v_off hC rfl rfl rfl rfl (congrArg Bool.not hb1) rfl rfl ?_
   refine v_off hC rfl rfl rfl rfl (congrArg Bool.not hb1) rfl rfl ?_
   refine v_off hC rfl rfl rfl rfl (congrArg Bool.not hb1) rfl rfl ?_
   refine v_pick hC rfl rfl rfl (b := true) (congrArg Bool.not hb1) rfl rfl rfl trivial ?_
   refine Vc.nil ?_
   injection h with h
   subst h
   refine m_norm ?_
   apply w_conv hC []
   ·
    exact co
   ·
    rfl
   ·
    decide
   ·
    rfl
 rcases sel_some h with ⟨hb2, h⟩ | ⟨hb2, h⟩
 ·
  refine s_true rfl hb2 ?_
  refine s_reg ?_
  refine v_op hT hC rfl rfl rfl rfl trivial ?_
  refine Vc.nil ?_
  refine aw_ret ?_
  refine t_ret ?_
  injection h with h
  subst h
  exact ends (Weak.refl _) rfl trivial
 ·
  refine s_false rfl hb2 ?_
  refine aw_skip ?_
  refine t_norm ?_
  refine s_reg ?_
  refine v_op hT hC rfl rfl rfl rfl trivial ?_
  refine Vc.nil ?_
  refine s_in ?_
  refine s_reg ?_
  iterate 4 refine v_op hT hC rfl rfl rfl rfl trivial ?_
  refine Vc.nil ?_
  refine live [5, 6] [] (s' := [_, _]) (o' := []) rfl rfl ?_
  obtain ⟨v9, hl, h⟩ := bnd_some h
  refine s_loop (fun v6 => ([(5, .sv (.int .i64 v6.1)), (6, .sv (.int .i64 v6.2))], [])) (fun v9 => ([(5, .sv (.int .i64 v9)), (6, .any)], [])) hl ?_ ?_ ?_
  ·
   try dsimp only
   apply w_conv hC []
   ·
    exact co
   ·
    rfl
   ·
    decide
   ·
    rfl
  ·
   intro v6 s hs
   have h := hs
   unfold spec_SignOf_l2 at h
   refine s_in ?_
   refine s_reg ?_
   iterate 2 refine v_op hT hC rfl rfl rfl rfl trivial ?_
   refine Vc.nil ?_
   rcases sel_some h with ⟨hb7, h⟩ | ⟨hb7, h⟩
   ·
    refine s_true rfl hb7 ?_
    refine aw_skip ?_
    refine t_norm ?_
    refine live [5, 6] [] (s' := [_, _]) (o' := []) rfl rfl ?_
    obtain ⟨v10, h1, h⟩ := bnd_some h
    refine aw_to ([(5, .sv (.int .i64 v10))], []) ?_ ?_
    ·
     have h := h1
     refine s_block ?_
     refine s_reg ?_
     refine v_op hT hC rfl rfl rfl rfl trivial ?_
     obtain ⟨hq, h⟩ := req_some h
     refine v_op hT hC rfl rfl rfl rfl hq ?_
     refine v_op hT hC rfl rfl rfl rfl trivial ?_
     refine Vc.nil ?_
     rcases sel_some h with ⟨hb8, h⟩ | ⟨hb8, h⟩
     ·
      refine s_true rfl hb8 ?_
      refine aw_region ?_
      iterate 3 refine v_op hT hC rfl rfl rfl rfl trivial ?_
      refine Vc.nil ?_
      refine b_norm ?_
      injection h with h
      subst h
      refine m_norm ?_
      apply w_conv hC []
      ·
       exact co
      ·
       rfl
      ·
       decide
      ·
       rfl
     ·
      refine s_false rfl hb8 ?_
      refine aw_skip ?_
      refine b_norm ?_
      injection h with h
      subst h
      refine m_norm ?_
      apply w_conv hC []
      ·
       exact co
      ·
       rfl
      ·
       decide
      ·
       rfl
    refine aw_region ?_
    refine v_op hT hC rfl rfl rfl rfl trivial ?_
    obtain ⟨hq, h⟩ := req_some h
    refine v_op hT hC rfl rfl rfl rfl hq ?_
    refine v_op hT hC rfl rfl rfl rfl trivial ?_
    refine Vc.nil ?_
    injection h with h
    subst h
    refine r_go ?_
    try dsimp only
    apply w_conv hC []
    ·
     exact co
    ·
     rfl
    ·
     decide
    ·
     rfl
   ·
    refine s_false rfl hb7 ?_
    refine aw_exit ?_
    refine t_exit ?_
    injection h with h
    subst h
    refine r_exit ?_
    refine o_out ?_
    apply w_conv hC []
    ·
     exact co
    ·
     rfl
    ·
     decide
    ·
     rfl
  refine t_norm ?_
  refine s_reg ?_
  iterate 2 refine v_op hT hC rfl rfl rfl rfl trivial ?_
  refine Vc.nil ?_
  refine aw_ret ?_
  injection h with h
  subst h
  exact ends (Weak.refl _) rfl trivial
def spec_l10Row_res (r : Int) : AV := .sv (.int .i64 r)
def spec_l10Row_obs (r : Int) : Objs := []
theorem spec_l10Row_ac {p0 : (List Int)} {p1 : Int} {p2 : Int} {r : Int} (h : spec_l10Row p0 p1 p2 = some r) : AC Tryz.prog 246 [.sv (.ints .i64 p0), .sv (.int .i64 p1), .sv (.int .i64 p2)] [] (spec_l10Row_res r) (spec_l10Row_obs r) := by
 refine ac_of_body hT Tryz.func246 rfl fun C hC => ?_
 unfold spec_l10Row at h
 refine s_reg ?_
 refine v_op hT hC rfl rfl rfl rfl trivial ?_
 refine Vc.nil ?_
 refine s_reg ?_
 refine v_op hT hC rfl rfl rfl rfl trivial ?_
 refine Vc.nil ?_
 refine s_in ?_
 refine s_reg ?_
 refine v_op hT hC rfl rfl rfl rfl trivial ?_
 refine Vc.nil ?_
 refine live [0, 1, 2, 7, 8] [] (s' := [_, _, _, _, _]) (o' := []) rfl rfl ?_
 obtain ⟨v6, hl, h⟩ := bnd_some h
 refine s_loop (fun v3 => ([(7, .sv (.int .i64 v3.1)), (8, .sv (.int .i64 v3.2))], [])) (fun v6 => ([(7, .sv (.int .i64 v6)), (0, .any), (1, .any), (2, .any), (8, .any)], [])) hl ?_ ?_ ?_
 ·
  try dsimp only
  apply w_conv hC []
  ·
   exact co
  ·
   rfl
  ·
   decide
  ·
   rfl
 ·
  intro v3 s hs
  have h := hs
  unfold spec_l10Row_l2 at h
  refine s_in ?_
  refine s_reg ?_
  iterate 2 refine v_op hT hC rfl rfl rfl rfl trivial ?_
  refine Vc.nil ?_
  rcases sel_some h with ⟨hb3, h⟩ | ⟨hb3, h⟩
  ·
   refine s_true rfl hb3 ?_
   refine aw_skip ?_
   refine t_norm ?_
   refine s_in ?_
   refine s_block ?_
   refine aw_draw hm ?_
   iterate 6 refine v_op hT hC rfl rfl rfl rfl trivial ?_
   obtain ⟨hq, h⟩ := req_some h
   refine v_op hT hC rfl rfl rfl rfl hq ?_
   iterate 3 refine v_op hT hC rfl rfl rfl rfl trivial ?_
   obtain ⟨q7, hq, h⟩ := bnd_some h
   refine v_call hC [] rfl rfl rfl rfl Tryz.call247 (spec_SignOf_ac hq) rfl (by decide) trivial rfl (.inl rfl) rfl ?_
   iterate 3 refine v_op hT hC rfl rfl rfl rfl trivial ?_
   refine Vc.nil ⟨by kernel_rfl, ?_⟩
   refine b_norm ?_
   refine t_norm ?_
   refine aw_region ?_
   iterate 3 refine v_op hT hC rfl rfl rfl rfl trivial ?_
   refine Vc.nil ?_
   injection h with h
   subst h
   refine r_go ?_
   try dsimp only
   apply w_conv hC []
   ·
    exact co
   ·
    rfl
   ·
    decide
   ·
    rfl
  ·
   refine s_false rfl hb3 ?_
   refine aw_exit ?_
   refine t_exit ?_
   injection h with h
   subst h
   refine r_exit ?_
   refine o_out ?_
   apply w_conv hC []
   ·
    exact co
   ·
    rfl
   ·
    decide
   ·
    rfl
 refine t_norm ?_
 refine s_reg ?_
 iterate 2 refine v_op hT hC rfl rfl rfl rfl trivial ?_
 refine Vc.nil ?_
 refine aw_ret ?_
 injection h with h
 subst h
 exact ends (Weak.refl _) rfl trivial
def spec_l10Sums_res (r : (List Int)) : AV := .own 16
def spec_l10Sums_obs (r : (List Int)) : Objs := [(16, .ints .i64 r)]
theorem spec_l10Sums_ac {p0 : (List Int)} {r : (List Int)} (h : spec_l10Sums p0 = some r) : AC Tryz.prog 221 [.sv (.ints .i64 p0)] [] (spec_l10Sums_res r) (spec_l10Sums_obs r) := by
 refine ac_of_body hT Tryz.func221 rfl fun C hC => ?_
 unfold spec_l10Sums at h
 refine s_reg ?_
 refine v_op hT hC rfl rfl rfl rfl trivial ?_
 refine Vc.nil ?_
 refine s_reg ?_
 iterate 2 refine v_op hT hC rfl rfl rfl rfl trivial ?_
 refine Vc.nil ?_
 refine s_in ?_
 refine s_reg ?_
 refine v_op hT hC rfl rfl rfl rfl trivial ?_
 refine Vc.nil ?_
 refine live [0, 3, 4] [176] (s' := [_, _, _]) (o' := [_]) rfl rfl ?_
 obtain ⟨v20, hl, h⟩ := bnd_some h
 refine s_loop (fun v10 => ([(4, .sv (.int .i64 v10.1))], [(176, some (.ints .i64 v10.2))])) (fun v20 => ([(0, .any), (4, .any)], [(176, some (.ints .i64 v20))])) hl ?_ ?_ ?_
 ·
  try dsimp only
  apply w_conv hC []
  ·
   exact co
  ·
   rfl
  ·
   decide
  ·
   rfl
 ·
  intro v10 s hs
  have h := hs
  unfold spec_l10Sums_l12 at h
  refine s_in ?_
  refine s_reg ?_
  iterate 2 refine v_op hT hC rfl rfl rfl rfl trivial ?_
  refine Vc.nil ?_
  rcases sel_some h with ⟨hb9, h⟩ | ⟨hb9, h⟩
  ·
   refine s_true rfl hb9 ?_
   refine aw_skip ?_
   refine t_norm ?_
   refine s_in ?_
   refine s_block ?_
   refine s_reg ?_
   refine v_op hT hC rfl rfl rfl rfl trivial ?_
   refine Vc.nil ?_
   refine live [0, 3, 4, 5] [176] (s' := [_, _, _, _]) (o' := [_]) rfl rfl ?_
   obtain ⟨v26, hl, h⟩ := bnd_some h
   refine s_loop (fun v23 => ([(5, .sv (.int .i64 v23.1))], [(176, some (.ints .i64 v23.2))])) (fun v26 => ([(5, .any)], [(176, some (.ints .i64 v26))])) hl ?_ ?_ ?_
   ·
    try dsimp only
    apply w_conv hC []
    ·
     exact co
    ·
     rfl
    ·
     decide
    ·
     rfl
   ·
    intro v23 s hs
    have h := hs
    unfold spec_l10Sums_l14 at h
    refine s_in ?_
    refine s_reg ?_
    iterate 2 refine v_op hT hC rfl rfl rfl rfl trivial ?_
    refine Vc.nil ?_
    rcases sel_some h with ⟨hb12, h⟩ | ⟨hb12, h⟩
    ·
     refine s_true rfl hb12 ?_
     refine aw_skip ?_
     refine t_norm ?_
     refine s_in ?_
     refine s_block ?_
     refine aw_region ?_
     iterate 4 refine v_op hT hC rfl rfl rfl rfl trivial ?_
     obtain ⟨q27, hq, h⟩ := bnd_some h
     refine v_call hC [] rfl rfl rfl rfl Tryz.call246 (spec_l10Row_ac hq) rfl (by decide) trivial rfl (.inl rfl) rfl ?_
     refine v_op hT hC rfl rfl rfl rfl trivial ?_
     obtain ⟨hq, h⟩ := req_some h
     refine v_op hT hC rfl rfl rfl rfl ⟨trivial, hq⟩ ?_
     refine v_op hT hC rfl rfl rfl rfl trivial ?_
     refine Vc.nil ?_
     refine b_norm ?_
     refine t_norm ?_
     refine aw_region ?_
     iterate 3 refine v_op hT hC rfl rfl rfl rfl trivial ?_
     refine Vc.nil ?_
     injection h with h
     subst h
     refine r_go ?_
     try dsimp only
     apply w_conv hC [(176, 416)]
     ·
      exact co
     ·
      rfl
     ·
      decide
     ·
      rfl
    ·
     refine s_false rfl hb12 ?_
     refine aw_exit ?_
     refine t_exit ?_
     injection h with h
     subst h
     refine r_exit ?_
     refine o_out ?_
     apply w_conv hC []
     ·
      exact co
     ·
      rfl
     ·
      decide
     ·
      rfl
   refine b_norm ?_
   refine t_norm ?_
   refine aw_region ?_
   iterate 3 refine v_op hT hC rfl rfl rfl rfl trivial ?_
   refine Vc.nil ?_
   injection h with h
   subst h
   refine r_go ?_
   try dsimp only
   apply w_conv hC []
   ·
    exact co
   ·
    rfl
   ·
    decide
   ·
    rfl
  ·
   refine s_false rfl hb9 ?_
   refine aw_exit ?_
   refine t_exit ?_
   injection h with h
   subst h
   refine r_exit ?_
   refine o_out ?_
   apply w_conv hC []
   ·
    exact co
   ·
    rfl
   ·
    decide
   ·
    rfl
 refine t_norm ?_
 refine s_reg ?_
 iterate 2 refine v_op hT hC rfl rfl rfl rfl trivial ?_
 refine Vc.nil ?_
 refine s_in ?_
 refine s_reg ?_
 refine v_op hT hC rfl rfl rfl rfl trivial ?_
 refine Vc.nil ?_
 refine live [3, 6, 7] [176, 432] (s' := [_, _, _]) (o' := [_, _]) rfl rfl ?_
 obtain ⟨v91, hl, h⟩ := bnd_some h
 refine s_loop (fun v60 => ([(7, .sv (.int .i64 v60.1))], [(432, some (.ints .i64 v60.2))])) (fun v91 => ([(3, .any), (7, .any)], [(432, some (.ints .i64 v91)), (176, none)])) hl ?_ ?_ ?_
 ·
  try dsimp only
  apply w_conv hC []
  ·
   exact co
  ·
   rfl
  ·
   decide
  ·
   rfl
 ·
  intro v60 s hs
  have h := hs
  unfold spec_l10Sums_l146 at h
  refine s_in ?_
  refine s_reg ?_
  iterate 2 refine v_op hT hC rfl rfl rfl rfl trivial ?_
  refine Vc.nil ?_
  rcases sel_some h with ⟨hb39, h⟩ | ⟨hb39, h⟩
  ·
   refine s_true rfl hb39 ?_
   refine aw_skip ?_
   refine t_norm ?_
   refine s_in ?_
   refine s_block ?_
   refine s_reg ?_
   refine v_op hT hC rfl rfl rfl rfl trivial ?_
   refine Vc.nil ?_
   refine live [3, 6, 7, 8] [176, 432] (s' := [_, _, _, _]) (o' := [_, _]) rfl rfl ?_
   obtain ⟨v111, hl, h⟩ := bnd_some h
   refine s_loop (fun v101 => ([(8, .sv (.int .i64 v101.1))], [(432, some (.ints .i64 v101.2))])) (fun v111 => ([(8, .any)], [(432, some (.ints .i64 v111))])) hl ?_ ?_ ?_
   ·
    try dsimp only
    apply w_conv hC []
    ·
     exact co
    ·
     rfl
    ·
     decide
    ·
     rfl
   ·
    intro v101 s hs
    have h := hs
    unfold spec_l10Sums_l168 at h
    refine s_in ?_
    refine s_reg ?_
    iterate 2 refine v_op hT hC rfl rfl rfl rfl trivial ?_
    refine Vc.nil ?_
    rcases sel_some h with ⟨hb48, h⟩ | ⟨hb48, h⟩
    ·
     refine s_true rfl hb48 ?_
     refine aw_skip ?_
     refine t_norm ?_
     refine s_in ?_
     refine s_block ?_
     refine s_reg ?_
     refine v_op hT hC rfl rfl rfl rfl trivial ?_
     refine Vc.nil ?_
     refine s_in ?_
     refine s_reg ?_
     refine v_op hT hC rfl rfl rfl rfl trivial ?_
     refine Vc.nil ?_
     refine live [3, 6, 7, 8, 9, 10] [176, 432] (s' := [_, _, _, _, _, _]) (o' := [_, _]) rfl rfl ?_
     obtain ⟨v117, hl, h⟩ := bnd_some h
     refine s_loop (fun v114 => ([(9, .sv (.int .i64 v114.1)), (10, .sv (.int .i64 v114.2))], [])) (fun v117 => ([(9, .sv (.int .i64 v117)), (10, .any)], [])) hl ?_ ?_ ?_
     ·
      try dsimp only
      apply w_conv hC []
      ·
       exact co
      ·
       rfl
      ·
       decide
      ·
       rfl
     ·
      intro v114 s hs
      have h := hs
      unfold spec_l10Sums_l172 at h
      refine s_in ?_
      refine s_reg ?_
      iterate 2 refine v_op hT hC rfl rfl rfl rfl trivial ?_
      refine Vc.nil ?_
      rcases sel_some h with ⟨hb51, h⟩ | ⟨hb51, h⟩
      ·
       refine s_true rfl hb51 ?_
       refine aw_skip ?_
       refine t_norm ?_
       refine s_in ?_
       refine s_block ?_
       refine aw_draw hm ?_
       iterate 3 refine v_op hT hC rfl rfl rfl rfl trivial ?_
       obtain ⟨q118, hq, h⟩ := bnd_some h
       refine v_call hC [] rfl rfl rfl rfl Tryz.call247 (spec_SignOf_ac hq) rfl (by decide) trivial rfl (.inl rfl) rfl ?_
       iterate 5 refine v_op hT hC rfl rfl rfl rfl trivial ?_
       obtain ⟨hq, h⟩ := req_some h
       refine v_op hT hC rfl rfl rfl rfl hq ?_
       obtain ⟨hq, h⟩ := req_some h
       refine v_op hT hC rfl rfl rfl rfl hq ?_
       iterate 3 refine v_op hT hC rfl rfl rfl rfl trivial ?_
       refine Vc.nil ⟨by kernel_rfl, ?_⟩
       refine b_norm ?_
       refine t_norm ?_
       refine aw_region ?_
       iterate 3 refine v_op hT hC rfl rfl rfl rfl trivial ?_
       refine Vc.nil ?_
       injection h with h
       subst h
       refine r_go ?_
       try dsimp only
       apply w_conv hC []
       ·
        exact co
       ·
        rfl
       ·
        decide
       ·
        rfl
      ·
       refine s_false rfl hb51 ?_
       refine aw_exit ?_
       refine t_exit ?_
       injection h with h
       subst h
       refine r_exit ?_
       refine o_out ?_
       apply w_conv hC []
       ·
        exact co
       ·
        rfl
       ·
        decide
       ·
        rfl
     refine t_norm ?_
     refine aw_region ?_
     iterate 3 refine v_op hT hC rfl rfl rfl rfl trivial ?_
     obtain ⟨hq, h⟩ := req_some h
     refine v_op hT hC rfl rfl rfl rfl ⟨trivial, hq⟩ ?_
     refine v_op hT hC rfl rfl rfl rfl trivial ?_
     refine Vc.nil ?_
     refine b_norm ?_
     refine t_norm ?_
     refine aw_region ?_
     iterate 3 refine v_op hT hC rfl rfl rfl rfl trivial ?_
     refine Vc.nil ?_
     injection h with h
     subst h
     refine r_go ?_
     try dsimp only
     apply w_conv hC [(432, 896)]
     ·
      exact co
     ·
      rfl
     ·
      decide
     ·
      rfl
    ·
     refine s_false rfl hb48 ?_
     refine aw_exit ?_
     refine t_exit ?_
     injection h with h
     subst h
     refine r_exit ?_
     refine o_out ?_
     apply w_conv hC []
     ·
      exact co
     ·
      rfl
     ·
      decide
     ·
      rfl
   refine b_norm ?_
   refine t_norm ?_
   refine aw_region ?_
   iterate 3 refine v_op hT hC rfl rfl rfl rfl trivial ?_
   refine Vc.nil ?_
   injection h with h
   subst h
   refine r_go ?_
   try dsimp only
   apply w_conv hC []
   ·
    exact co
   ·
    rfl
   ·
    decide
   ·
    rfl
  ·
   refine s_false rfl hb39 ?_
   refine aw_exit ?_
   refine t_exit ?_
   injection h with h
   subst h
   refine r_exit ?_
   refine o_out ?_
   apply w_conv hC []
   ·
    exact co
   ·
    rfl
   ·
    decide
   ·
    rfl
 refine t_norm ?_
 refine s_reg ?_
 iterate 2 refine v_op hT hC rfl rfl rfl rfl trivial ?_
 refine Vc.nil ?_
 refine aw_ret ?_
 injection h with h
 subst h
 refine ends (τ := ⟨[(2, .own 16)], [(16, some (.ints .i64 v91))]⟩) ?_ rfl ⟨rfl, trivial⟩
 apply w_conv hC [(16, 432)]
 ·
  exact co
 ·
  rfl
 ·
  decide
 ·
  rfl
def spec_Eight_res (r : (List Int)) : AV := .own 16
def spec_Eight_obs (r : (List Int)) : Objs := [(16, .ints .i64 r)]
theorem spec_Eight_ac {p0 : (List Int)} {r : (List Int)} (h : spec_Eight p0 = some r) : AC Tryz.prog 171 [.sv (.ints .i64 p0)] [] (spec_Eight_res r) (spec_Eight_obs r) := by
 refine ac_of_body hT Tryz.func171 rfl fun C hC => ?_
 unfold spec_Eight at h
 refine s_reg ?_
 refine v_op hT hC rfl rfl rfl rfl trivial ?_
 refine Vc.nil ?_
 refine s_in ?_
 refine s_reg ?_
 refine v_op hT hC rfl rfl rfl rfl trivial ?_
 obtain ⟨q1, hq, h⟩ := bnd_some h
 refine v_call hC [] rfl rfl rfl rfl Tryz.call169 (spec_l09All_ac hq) rfl (by decide) trivial rfl (.inl rfl) rfl ?_
 refine v_op hT hC rfl rfl rfl rfl trivial ?_
 refine Vc.nil ?_
 rcases sel_some h with ⟨hb1, h⟩ | ⟨hb1, h⟩
 ·
  refine s_true rfl hb1 ?_
  refine s_reg ?_
  iterate 2 refine v_op hT hC rfl rfl rfl rfl trivial ?_
  refine Vc.nil ?_
  refine aw_ret ?_
  refine t_ret ?_
  injection h with h
  subst h
  refine ends (τ := ⟨[(2, .own 16)], [(16, some (.ints .i64 ([] : List Int)))]⟩) ?_ rfl ⟨rfl, trivial⟩
  apply w_conv hC [(16, 96)]
  ·
   exact co
  ·
   rfl
  ·
   decide
  ·
   rfl
 ·
  refine s_false rfl hb1 ?_
  refine aw_skip ?_
  refine t_norm ?_
  refine s_reg ?_
  refine v_op hT hC rfl rfl rfl rfl trivial ?_
  obtain ⟨q2, hq, h⟩ := bnd_some h
  refine v_call hC [(16, 128)] rfl rfl rfl rfl Tryz.call221 (spec_l10Sums_ac hq) rfl (by decide) trivial rfl (.inl rfl) rfl ?_
  refine v_op hT hC rfl rfl rfl rfl trivial ?_
  refine Vc.nil ?_
  refine aw_ret ?_
  injection h with h
  subst h
  refine ends (τ := ⟨[(2, .own 16)], [(16, some (.ints .i64 q2))]⟩) ?_ rfl ⟨rfl, trivial⟩
  apply w_conv hC [(16, 128)]
  ·
   exact co
  ·
   rfl
  ·
   decide
  ·
   rfl
def spec_StepOf_res (r : Int) : AV := .sv (.int .i64 r)
def spec_StepOf_obs (r : Int) : Objs := []
theorem spec_StepOf_ac {p0 : Int} {r : Int} (h : spec_StepOf p0 = some r) : AC Tryz.prog 222 [.sv (.int .i64 p0)] [] (spec_StepOf_res r) (spec_StepOf_obs r) := by
 refine ac_of_body hT Tryz.func222 rfl fun C hC => ?_
 unfold spec_StepOf at h
 refine s_reg ?_
 refine v_op hT hC rfl rfl rfl rfl trivial ?_
 refine Vc.nil ?_
 refine s_in ?_
 refine s_reg ?_
 refine v_op hT hC rfl rfl rfl rfl trivial ?_
 obtain ⟨q1, hq, h⟩ := bnd_some h
 refine v_call hC [] rfl rfl rfl rfl Tryz.call46 (spec_l01In_ac hq) rfl (by decide) trivial rfl (.inl rfl) rfl ?_
 refine v_op hT hC rfl rfl rfl rfl trivial ?_
 refine Vc.nil ?_
 rcases sel_some h with ⟨hb1, h⟩ | ⟨hb1, h⟩
 ·
  refine s_true rfl hb1 ?_
  refine s_reg ?_
  refine v_op hT hC rfl rfl rfl rfl trivial ?_
  refine Vc.nil ?_
  refine aw_ret ?_
  refine t_ret ?_
  injection h with h
  subst h
  exact ends (Weak.refl _) rfl trivial
 ·
  refine s_false rfl hb1 ?_
  refine aw_skip ?_
  refine t_norm ?_
  refine s_reg ?_
  refine v_op hT hC rfl rfl rfl rfl trivial ?_
  refine Vc.nil ?_
  refine live [0, 3] [] (s' := [_, _]) (o' := []) rfl rfl ?_
  obtain ⟨v2, h1, h⟩ := bnd_some h
  refine aw_to ([(3, .sv (.int .i64 v2))], []) ?_ ?_
  ·
   have h := h1
   refine s_reg ?_
   refine v_op hT hC rfl rfl rfl rfl trivial ?_
   obtain ⟨hq, h⟩ := req_some h
   refine v_op hT hC rfl rfl rfl rfl hq ?_
   refine Vc.nil ?_
   refine s_block ?_
   refine s_reg ?_
   iterate 2 refine v_op hT hC rfl rfl rfl rfl trivial ?_
   refine Vc.nil ?_
   rcases sel_some h with ⟨hb2, h⟩ | ⟨hb2, h⟩
   ·
    refine s_true rfl hb2 ?_
    refine aw_region ?_
    refine v_op hT hC rfl rfl rfl rfl trivial ?_
    refine Vc.nil ?_
    refine b_norm ?_
    injection h with h
    subst h
    refine m_norm ?_
    apply w_conv hC []
    ·
     exact co
    ·
     rfl
    ·
     decide
    ·
     rfl
   ·
    refine s_false rfl hb2 ?_
    refine s_reg ?_
    iterate 2 refine v_op hT hC rfl rfl rfl rfl trivial ?_
    refine Vc.nil ?_
    rcases sel_some h with ⟨hb3, h⟩ | ⟨hb3, h⟩
    ·
     refine s_true rfl hb3 ?_
     refine aw_region ?_
     refine v_op hT hC rfl rfl rfl rfl trivial ?_
     refine Vc.nil ?_
     refine b_norm ?_
     injection h with h
     subst h
     refine m_norm ?_
     apply w_conv hC []
     ·
      exact co
     ·
      rfl
     ·
      decide
     ·
      rfl
    ·
     refine s_false rfl hb3 ?_
     refine s_reg ?_
     iterate 2 refine v_op hT hC rfl rfl rfl rfl trivial ?_
     refine Vc.nil ?_
     rcases sel_some h with ⟨hb4, h⟩ | ⟨hb4, h⟩
     ·
      refine s_true rfl hb4 ?_
      refine aw_region ?_
      refine v_op hT hC rfl rfl rfl rfl trivial ?_
      refine Vc.nil ?_
      refine b_norm ?_
      injection h with h
      subst h
      refine m_norm ?_
      apply w_conv hC []
      ·
       exact co
      ·
       rfl
      ·
       decide
      ·
       rfl
     ·
      refine s_false rfl hb4 ?_
      refine s_reg ?_
      iterate 2 refine v_op hT hC rfl rfl rfl rfl trivial ?_
      refine Vc.nil ?_
      rcases sel_some h with ⟨hb5, h⟩ | ⟨hb5, h⟩
      ·
       refine s_true rfl hb5 ?_
       refine aw_region ?_
       refine v_op hT hC rfl rfl rfl rfl trivial ?_
       refine Vc.nil ?_
       refine b_norm ?_
       injection h with h
       subst h
       refine m_norm ?_
       apply w_conv hC []
       ·
        exact co
       ·
        rfl
       ·
        decide
       ·
        rfl
      ·
       refine s_false rfl hb5 ?_
       refine s_reg ?_
       iterate 2 refine v_op hT hC rfl rfl rfl rfl trivial ?_
       refine Vc.nil ?_
       rcases sel_some h with ⟨hb6, h⟩ | ⟨hb6, h⟩
       ·
        refine s_true rfl hb6 ?_
        refine aw_region ?_
        refine v_op hT hC rfl rfl rfl rfl trivial ?_
        refine Vc.nil ?_
        refine b_norm ?_
        injection h with h
        subst h
        refine m_norm ?_
        apply w_conv hC []
        ·
         exact co
        ·
         rfl
        ·
         decide
        ·
         rfl
       ·
        refine s_false rfl hb6 ?_
        refine aw_skip ?_
        refine b_norm ?_
        injection h with h
        subst h
        refine m_norm ?_
        apply w_conv hC []
        ·
         exact co
        ·
         rfl
        ·
         decide
        ·
         rfl
  refine s_in ?_
  refine s_reg ?_
  refine v_op hT hC rfl rfl rfl rfl trivial ?_
  refine Vc.nil ?_
  refine live [0, 3, 4] [] (s' := [_, _, _]) (o' := []) rfl rfl ?_
  obtain ⟨v6, hl, h⟩ := bnd_some h
  refine s_loop (fun v4 => ([(3, .sv (.int .i64 v4.1)), (4, .sv (.int .i64 v4.2))], [])) (fun v6 => ([(3, .sv (.int .i64 v6)), (0, .any), (4, .any)], [])) hl ?_ ?_ ?_
  ·
   try dsimp only
   apply w_conv hC []
   ·
    exact co
   ·
    rfl
   ·
    decide
   ·
    rfl
  ·
   intro v4 s hs
   have h := hs
   unfold spec_StepOf_l2 at h
   refine s_in ?_
   refine s_reg ?_
   iterate 2 refine v_op hT hC rfl rfl rfl rfl trivial ?_
   obtain ⟨hq, h⟩ := req_some h
   refine v_op hT hC rfl rfl rfl rfl hq ?_
   refine v_op hT hC rfl rfl rfl rfl trivial ?_
   refine Vc.nil ?_
   rcases sel_some h with ⟨hb9, h⟩ | ⟨hb9, h⟩
   ·
    refine s_true rfl hb9 ?_
    refine aw_skip ?_
    refine t_norm ?_
    refine s_in ?_
    refine s_block ?_
    refine aw_region ?_
    iterate 3 refine v_op hT hC rfl rfl rfl rfl trivial ?_
    refine Vc.nil ?_
    refine b_norm ?_
    refine t_norm ?_
    refine aw_region ?_
    iterate 3 refine v_op hT hC rfl rfl rfl rfl trivial ?_
    refine Vc.nil ?_
    injection h with h
    subst h
    refine r_go ?_
    try dsimp only
    apply w_conv hC []
    ·
     exact co
    ·
     rfl
    ·
     decide
    ·
     rfl
   ·
    refine s_false rfl hb9 ?_
    refine aw_exit ?_
    refine t_exit ?_
    injection h with h
    subst h
    refine r_exit ?_
    refine o_out ?_
    apply w_conv hC []
    ·
     exact co
    ·
     rfl
    ·
     decide
    ·
     rfl
  refine t_norm ?_
  refine s_reg ?_
  iterate 2 refine v_op hT hC rfl rfl rfl rfl trivial ?_
  refine Vc.nil ?_
  refine aw_ret ?_
  injection h with h
  subst h
  exact ends (Weak.refl _) rfl trivial
def spec_l08Signed_res (r : Int) : AV := .sv (.int .i64 r)
def spec_l08Signed_obs (r : Int) : Objs := []
theorem spec_l08Signed_ac {p0 : Int} {p1 : Int} {r : Int} (h : spec_l08Signed p0 p1 = some r) : AC Tryz.prog 223 [.sv (.int .i64 p0), .sv (.int .i64 p1)] [] (spec_l08Signed_res r) (spec_l08Signed_obs r) := by
 refine ac_of_body hT Tryz.func223 rfl fun C hC => ?_
 unfold spec_l08Signed at h
 refine s_reg ?_
 refine v_op hT hC rfl rfl rfl rfl trivial ?_
 refine Vc.nil ?_
 refine s_in ?_
 refine s_reg ?_
 iterate 2 refine v_op hT hC rfl rfl rfl rfl trivial ?_
 refine Vc.nil ?_
 rcases sel_some h with ⟨hb1, h⟩ | ⟨hb1, h⟩
 ·
  refine s_true rfl hb1 ?_
  refine s_reg ?_
  iterate 3 refine v_op hT hC rfl rfl rfl rfl trivial ?_
  refine Vc.nil ?_
  refine aw_ret ?_
  refine t_ret ?_
  injection h with h
  subst h
  exact ends (Weak.refl _) rfl trivial
 ·
  refine s_false rfl hb1 ?_
  refine aw_skip ?_
  refine t_norm ?_
  refine s_reg ?_
  iterate 2 refine v_op hT hC rfl rfl rfl rfl trivial ?_
  refine Vc.nil ?_
  refine aw_ret ?_
  injection h with h
  subst h
  exact ends (Weak.refl _) rfl trivial
end
end Go.Proofs.YtpmljllgnocjkaaGreat.A
