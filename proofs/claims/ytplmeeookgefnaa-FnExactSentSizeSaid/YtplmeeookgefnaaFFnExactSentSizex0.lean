/- Contracts of the functions that the law FnExactSentSize reaches, part 0: each comes to what its pure function tells. Written by a program of this session. Conditions: as each statement tells. -/
import Derived.Test.YtplmeeookgefnaaBFnExactSentSize
namespace Go.Proofs.Ytplmeeookgefnaa.A
open Go Go.Proofs Go.Proofs.YtplmeeookgefnaaAL Go.RowKit
set_option linter.unusedVariables false
set_option linter.unusedSimpArgs false
set_option maxRecDepth 100000
set_option maxHeartbeats 2000000
noncomputable section
def impl_within_res (r : Bool) : AV := .sv (.bool r)
def impl_within_obs (r : Bool) : Objs := []
theorem impl_within_ac {p0 : Int} {p1 : Int} {p2 : Int} {r : Bool} (h : impl_within p0 p1 p2 = some r) : AC Try.prog 102 [.sv (.int .i64 p0), .sv (.int .i64 p1), .sv (.int .i64 p2)] [] (impl_within_res r) (impl_within_obs r) := by
  refine ac_of_body hT Try.func102 rfl fun C hC => ?_
  unfold impl_within at h
  refine s_reg ?_
  refine v_op hT hC rfl rfl rfl rfl trivial ?_
  refine Vc.nil ?_
  refine live [0, 1, 2, 6] [] (s' := [_, _, _, _]) (o' := []) rfl rfl ?_
  obtain ⟨v1, h1, h⟩ := bnd_some h
  refine aw_to ([(6, .sv (.bool v1)), (0, .any), (1, .any), (2, .any)], []) ?_ ?_
  · have h := h1
    refine aw_region ?_
    iterate 4 refine v_op hT hC rfl rfl rfl rfl trivial ?_
    rcases sel_some h with ⟨hb1, h⟩ | ⟨hb1, h⟩
    · iterate 3 refine v_on hT hC rfl rfl rfl rfl hb1 rfl rfl rfl trivial ?_
      refine v_pick hC rfl rfl rfl (b := true) hb1 rfl rfl rfl trivial ?_
      refine v_op hT hC rfl rfl rfl rfl trivial ?_
      refine Vc.nil ?_
      injection h with h
      subst h
      refine m_norm ?_
      apply w_conv hC []
      · repeat' first | exact CO.nil | apply CO.gone | apply CO.row rfl rfl | apply CO.box rfl rfl | decide
      · rfl
      · decide
      · rfl
    · refine v_off hC rfl rfl rfl rfl hb1 rfl rfl ?_
      refine v_off hC rfl rfl rfl rfl hb1 rfl rfl ?_
      refine v_off hC rfl rfl rfl rfl hb1 rfl rfl ?_
      refine v_pick hC rfl rfl rfl (b := false) hb1 rfl rfl rfl trivial ?_
      refine v_op hT hC rfl rfl rfl rfl trivial ?_
      refine Vc.nil ?_
      injection h with h
      subst h
      refine m_norm ?_
      apply w_conv hC []
      · repeat' first | exact CO.nil | apply CO.gone | apply CO.row rfl rfl | apply CO.box rfl rfl | decide
      · rfl
      · decide
      · rfl
  refine aw_ret ?_
  injection h with h
  subst h
  exact ends (Weak.refl _) rfl trivial
def spec_l01In_res (r : Bool) : AV := .sv (.bool r)
def spec_l01In_obs (r : Bool) : Objs := []
theorem spec_l01In_ac {p0 : Int} {p1 : Int} {p2 : Int} {r : Bool} (h : spec_l01In p0 p1 p2 = some r) : AC Try.prog 106 [.sv (.int .i64 p0), .sv (.int .i64 p1), .sv (.int .i64 p2)] [] (spec_l01In_res r) (spec_l01In_obs r) := by
  refine ac_of_body hT Try.func106 rfl fun C hC => ?_
  unfold spec_l01In at h
  refine s_reg ?_
  refine v_op hT hC rfl rfl rfl rfl trivial ?_
  refine Vc.nil ?_
  refine live [0, 1, 2, 6] [] (s' := [_, _, _, _]) (o' := []) rfl rfl ?_
  obtain ⟨v1, h1, h⟩ := bnd_some h
  refine aw_to ([(6, .sv (.bool v1)), (0, .any), (1, .any), (2, .any)], []) ?_ ?_
  · have h := h1
    refine aw_region ?_
    iterate 4 refine v_op hT hC rfl rfl rfl rfl trivial ?_
    rcases sel_some h with ⟨hb1, h⟩ | ⟨hb1, h⟩
    · iterate 3 refine v_on hT hC rfl rfl rfl rfl hb1 rfl rfl rfl trivial ?_
      refine v_pick hC rfl rfl rfl (b := true) hb1 rfl rfl rfl trivial ?_
      refine v_op hT hC rfl rfl rfl rfl trivial ?_
      refine Vc.nil ?_
      injection h with h
      subst h
      refine m_norm ?_
      apply w_conv hC []
      · repeat' first | exact CO.nil | apply CO.gone | apply CO.row rfl rfl | apply CO.box rfl rfl | decide
      · rfl
      · decide
      · rfl
    · refine v_off hC rfl rfl rfl rfl hb1 rfl rfl ?_
      refine v_off hC rfl rfl rfl rfl hb1 rfl rfl ?_
      refine v_off hC rfl rfl rfl rfl hb1 rfl rfl ?_
      refine v_pick hC rfl rfl rfl (b := false) hb1 rfl rfl rfl trivial ?_
      refine v_op hT hC rfl rfl rfl rfl trivial ?_
      refine Vc.nil ?_
      injection h with h
      subst h
      refine m_norm ?_
      apply w_conv hC []
      · repeat' first | exact CO.nil | apply CO.gone | apply CO.row rfl rfl | apply CO.box rfl rfl | decide
      · rfl
      · decide
      · rfl
  refine aw_ret ?_
  injection h with h
  subst h
  exact ends (Weak.refl _) rfl trivial
def impl_areIn_res (r : Bool) : AV := .sv (.bool r)
def impl_areIn_obs (r : Bool) : Objs := []
theorem impl_areIn_ac {p0 : (List Int)} {p1 : Int} {p2 : Int} {p3 : Int} {r : Bool} (h : impl_areIn p0 p1 p2 p3 = some r) : AC Try.prog 109 [.sv (.ints .i64 p0), .sv (.int .i64 p1), .sv (.int .i64 p2), .sv (.int .i64 p3)] [] (impl_areIn_res r) (impl_areIn_obs r) := by
  refine ac_of_body hT Try.func109 rfl fun C hC => ?_
  unfold impl_areIn at h
  refine s_reg ?_
  refine v_op hT hC rfl rfl rfl rfl trivial ?_
  refine Vc.nil ?_
  refine s_in ?_
  refine s_reg ?_
  iterate 3 refine v_op hT hC rfl rfl rfl rfl trivial ?_
  refine Vc.nil ?_
  refine live [0, 1, 2, 3, 11, 12, 13] [] (s' := [_, _, _, _, _, _, _]) (o' := []) rfl rfl ?_
  obtain ⟨o8, hl, h⟩ := bnd_some h
  refine s_loopR (fun v3 => ([(13, .sv (.int .i64 v3))], [])) (fun v6 => ([(2, .any), (3, .any), (11, .any), (12, .any), (13, .any)], [])) (fun r => EndsA C T Try.f109.results.toList (impl_areIn_res r) (impl_areIn_obs r)) hl ?_ ?_ ?_ ?_
  · apply w_conv hC []
    · repeat' first | exact CO.nil | apply CO.gone | apply CO.row rfl rfl | apply CO.box rfl rfl | decide
    · rfl
    · decide
    · rfl
  · intro v3 s hs
    have h := hs
    unfold impl_areIn_l2 at h
    refine s_reg ?_
    refine v_op hT hC rfl rfl rfl rfl trivial ?_
    refine Vc.nil ?_
    refine s_in ?_
    rcases sel_some h with ⟨hb5, h⟩ | ⟨hb5, h⟩
    · refine s_true rfl hb5 ?_
      refine aw_skip ?_
      refine t_norm ?_
      refine s_in ?_
      refine s_block ?_
      refine s_reg ?_
      obtain ⟨hq, h⟩ := req_some h
      refine v_op hT hC rfl rfl rfl rfl hq ?_
      iterate 2 refine v_op hT hC rfl rfl rfl rfl trivial ?_
      refine Vc.nil ?_
      refine s_reg ?_
      iterate 3 refine v_op hT hC rfl rfl rfl rfl trivial ?_
      obtain ⟨q7, hq, h⟩ := bnd_some h
      refine v_call hC [] rfl rfl rfl rfl Try.call102 (impl_within_ac hq) rfl (by decide) trivial rfl (.inl rfl) rfl ?_
      refine v_op hT hC rfl rfl rfl rfl trivial ?_
      refine Vc.nil ?_
      rcases sel_some h with ⟨hb6, h⟩ | ⟨hb6, h⟩
      · refine s_true rfl hb6 ?_
        refine s_reg ?_
        refine v_op hT hC rfl rfl rfl rfl trivial ?_
        refine Vc.nil ?_
        refine aw_ret ?_
        refine b_ret ?_
        refine t_ret ?_
        injection h with h
        subst h
        refine r_ret ?_
        refine o_ret ?_
        exact ends (Weak.refl _) rfl trivial
      · refine s_false rfl hb6 ?_
        refine aw_skip ?_
        refine b_norm ?_
        refine t_norm ?_
        refine aw_region ?_
        iterate 2 refine v_op hT hC rfl rfl rfl rfl trivial ?_
        refine Vc.nil ?_
        injection h with h
        subst h
        refine r_go ?_
        apply w_conv hC []
        · repeat' first | exact CO.nil | apply CO.gone | apply CO.row rfl rfl | apply CO.box rfl rfl | decide
        · rfl
        · decide
        · rfl
    · refine s_false rfl hb5 ?_
      refine aw_exit ?_
      refine t_exit ?_
      injection h with h
      subst h
      refine r_exit ?_
      refine o_both ?_
      apply w_conv hC []
      · repeat' first | exact CO.nil | apply CO.gone | apply CO.row rfl rfl | apply CO.box rfl rfl | decide
      · rfl
      · decide
      · rfl
  · intro v6 e
    subst e
    refine t_norm ?_
    refine s_reg ?_
    iterate 5 refine v_op hT hC rfl rfl rfl rfl trivial ?_
    refine Vc.nil ?_
    refine aw_ret ?_
    injection h with h
    subst h
    exact ends (Weak.refl _) rfl trivial
  · intro r' σ' e hE
    subst e
    injection h with h
    subst h
    refine t_ret ?_
    exact hE
def impl_FoldSe_res (r : (Int × Bool)) : AV := .tup [.sv (.int .i64 r.1), .sv (.bool r.2)]
def impl_FoldSe_obs (r : (Int × Bool)) : Objs := []
theorem impl_FoldSe_ac {p0 : Int} {r : (Int × Bool)} (h : impl_FoldSe p0 = some r) : AC Try.prog 193 [.sv (.int .i64 p0)] [] (impl_FoldSe_res r) (impl_FoldSe_obs r) := by
  refine ac_of_body hT Try.func193 rfl fun C hC => ?_
  unfold impl_FoldSe at h
  refine s_reg ?_
  iterate 2 refine v_op hT hC rfl rfl rfl rfl trivial ?_
  refine Vc.nil ?_
  refine s_in ?_
  refine s_block ?_
  refine s_reg ?_
  refine v_op hT hC rfl rfl rfl rfl trivial ?_
  obtain ⟨q1, hq, h⟩ := bnd_some h
  refine v_call hC [] rfl rfl rfl rfl Try.call102 (impl_within_ac hq) rfl (by decide) trivial rfl (.inl rfl) rfl ?_
  iterate 2 refine v_op hT hC rfl rfl rfl rfl trivial ?_
  refine Vc.nil ?_
  rcases sel_some h with ⟨hb1, h⟩ | ⟨hb1, h⟩
  · refine s_true rfl hb1 ?_
    refine s_reg ?_
    iterate 2 refine v_op hT hC rfl rfl rfl rfl trivial ?_
    refine Vc.nil ?_
    refine aw_ret ?_
    refine b_ret ?_
    refine t_ret ?_
    injection h with h
    subst h
    exact ends (Weak.refl _) rfl trivial
  · refine s_false rfl hb1 ?_
    refine s_reg ?_
    iterate 3 refine v_op hT hC rfl rfl rfl rfl trivial ?_
    refine Vc.nil ?_
    rcases sel_some h with ⟨hb2, h⟩ | ⟨hb2, h⟩
    · refine s_true rfl hb2 ?_
      refine s_reg ?_
      iterate 5 refine v_op hT hC rfl rfl rfl rfl trivial ?_
      refine Vc.nil ?_
      refine aw_ret ?_
      refine b_ret ?_
      refine t_ret ?_
      injection h with h
      subst h
      exact ends (Weak.refl _) rfl trivial
    · refine s_false rfl hb2 ?_
      refine aw_skip ?_
      refine b_norm ?_
      refine t_norm ?_
      refine s_reg ?_
      iterate 4 refine v_op hT hC rfl rfl rfl rfl trivial ?_
      refine Vc.nil ?_
      refine aw_ret ?_
      injection h with h
      subst h
      exact ends (Weak.refl _) rfl trivial
def impl_figuresOf_res (r : Int) : AV := .sv (.int .i64 r)
def impl_figuresOf_obs (r : Int) : Objs := []
theorem impl_figuresOf_ac {p0 : Int} {r : Int} (h : impl_figuresOf p0 = some r) : AC Try.prog 273 [.sv (.int .i64 p0)] [] (impl_figuresOf_res r) (impl_figuresOf_obs r) := by
  refine ac_of_body hT Try.func273 rfl fun C hC => ?_
  unfold impl_figuresOf at h
  refine s_reg ?_
  refine v_op hT hC rfl rfl rfl rfl trivial ?_
  refine Vc.nil ?_
  refine s_reg ?_
  refine v_op hT hC rfl rfl rfl rfl trivial ?_
  refine Vc.nil ?_
  refine s_in ?_
  refine live [0, 3] [] (s' := [_, _]) (o' := []) rfl rfl ?_
  obtain ⟨v4, hl, h⟩ := bnd_some h
  refine s_loop (fun v2 => ([(0, .sv (.int .i64 v2.1)), (3, .sv (.int .i64 v2.2))], [])) (fun v4 => ([(3, .sv (.int .i64 v4)), (0, .any)], [])) hl ?_ ?_ ?_
  · try dsimp only
    apply w_conv hC []
    · repeat' first | exact CO.nil | apply CO.gone | apply CO.row rfl rfl | apply CO.box rfl rfl | decide
    · rfl
    · decide
    · rfl
  · intro v2 s hs
    have h := hs
    unfold impl_figuresOf_l2 at h
    refine s_in ?_
    refine s_reg ?_
    iterate 2 refine v_op hT hC rfl rfl rfl rfl trivial ?_
    refine Vc.nil ?_
    rcases sel_some h with ⟨hb3, h⟩ | ⟨hb3, h⟩
    · refine s_true rfl hb3 ?_
      refine aw_skip ?_
      refine t_norm ?_
      refine s_in ?_
      refine s_block ?_
      refine aw_region ?_
      iterate 3 refine v_op hT hC rfl rfl rfl rfl trivial ?_
      refine Vc.nil ?_
      refine b_norm ?_
      refine t_norm ?_
      refine aw_region ?_
      refine v_op hT hC rfl rfl rfl rfl trivial ?_
      obtain ⟨hq, h⟩ := req_some h
      refine v_op hT hC rfl rfl rfl rfl hq ?_
      refine v_op hT hC rfl rfl rfl rfl trivial ?_
      refine Vc.nil ?_
      injection h with h
      subst h
      refine r_go ?_
      try dsimp only
      apply w_conv hC []
      · repeat' first | exact CO.nil | apply CO.gone | apply CO.row rfl rfl | apply CO.box rfl rfl | decide
      · rfl
      · decide
      · rfl
    · refine s_false rfl hb3 ?_
      refine aw_exit ?_
      refine t_exit ?_
      injection h with h
      subst h
      refine r_exit ?_
      refine o_out ?_
      apply w_conv hC []
      · repeat' first | exact CO.nil | apply CO.gone | apply CO.row rfl rfl | apply CO.box rfl rfl | decide
      · rfl
      · decide
      · rfl
  refine t_norm ?_
  refine s_reg ?_
  iterate 2 refine v_op hT hC rfl rfl rfl rfl trivial ?_
  refine Vc.nil ?_
  refine aw_ret ?_
  injection h with h
  subst h
  exact ends (Weak.refl _) rfl trivial
def impl_signs_res (r : ByteArray) : AV := .sv (.str r)
def impl_signs_obs (r : ByteArray) : Objs := []
theorem impl_signs_ac {p0 : Int} {p1 : Int} {r : ByteArray} (h : impl_signs p0 p1 = some r) : AC Try.prog 226 [.sv (.int .i64 p0), .sv (.int .i64 p1)] [] (impl_signs_res r) (impl_signs_obs r) := by
  refine ac_of_body hT Try.func226 rfl fun C hC => ?_
  unfold impl_signs at h
  refine s_reg ?_
  refine v_op hT hC rfl rfl rfl rfl trivial ?_
  refine Vc.nil ?_
  refine s_reg ?_
  refine v_op hT hC rfl rfl rfl rfl trivial ?_
  obtain ⟨hq, h⟩ := req_some h
  refine v_op hT hC rfl rfl rfl rfl ⟨hq.1, hq.2.1, hq.2.2, by decide⟩ ?_
  refine v_op hT hC rfl rfl rfl rfl trivial ?_
  refine Vc.nil ?_
  refine s_in ?_
  refine s_reg ?_
  iterate 3 refine v_op hT hC rfl rfl rfl rfl trivial ?_
  refine Vc.nil ?_
  refine live [0, 5, 6] [128] (s' := [_, _, _]) (o' := [_]) rfl rfl ?_
  obtain ⟨v4, hl, h⟩ := bnd_some h
  refine s_loop (fun v2 => ([(0, .sv (.int .i64 v2.1)), (6, .sv (.int .i64 v2.2.1))], [(128, some (.ints .u8 v2.2.2))])) (fun v4 => ([(0, .any), (6, .any)], [(128, some (.ints .u8 v4))])) hl ?_ ?_ ?_
  · try dsimp only
    apply w_conv hC []
    · repeat' first | exact CO.nil | apply CO.gone | apply CO.row rfl rfl | apply CO.box rfl rfl | decide
    · rfl
    · decide
    · rfl
  · intro v2 s hs
    have h := hs
    unfold impl_signs_l2 at h
    refine s_in ?_
    refine s_reg ?_
    iterate 2 refine v_op hT hC rfl rfl rfl rfl trivial ?_
    refine Vc.nil ?_
    rcases sel_some h with ⟨hb3, h⟩ | ⟨hb3, h⟩
    · refine s_true rfl hb3 ?_
      refine aw_skip ?_
      refine t_norm ?_
      refine s_in ?_
      refine s_block ?_
      refine s_reg ?_
      iterate 6 refine v_op hT hC rfl rfl rfl rfl trivial ?_
      obtain ⟨hq, h⟩ := req_some h
      refine v_op hT hC rfl rfl rfl rfl hq ?_
      obtain ⟨hq, h⟩ := req_some h
      refine v_op hT hC rfl rfl rfl rfl hq ?_
      refine Vc.nil ?_
      refine aw_region ?_
      refine v_op hT hC rfl rfl rfl rfl trivial ?_
      obtain ⟨hq, h⟩ := req_some h
      refine v_op hT hC rfl rfl rfl rfl hq ?_
      refine v_op hT hC rfl rfl rfl rfl trivial ?_
      refine Vc.nil ?_
      refine b_norm ?_
      refine t_norm ?_
      refine aw_region ?_
      iterate 3 refine v_op hT hC rfl rfl rfl rfl trivial ?_
      refine Vc.nil ?_
      injection h with h
      subst h
      refine r_go ?_
      try dsimp only
      apply w_conv hC []
      · repeat' first | exact CO.nil | apply CO.gone | apply CO.row rfl rfl | apply CO.box rfl rfl | decide
      · rfl
      · decide
      · rfl
    · refine s_false rfl hb3 ?_
      refine aw_exit ?_
      refine t_exit ?_
      injection h with h
      subst h
      refine r_exit ?_
      refine o_out ?_
      apply w_conv hC []
      · repeat' first | exact CO.nil | apply CO.gone | apply CO.row rfl rfl | apply CO.box rfl rfl | decide
      · rfl
      · decide
      · rfl
  refine t_norm ?_
  refine s_reg ?_
  iterate 3 refine v_op hT hC rfl rfl rfl rfl trivial ?_
  refine Vc.nil ?_
  refine aw_ret ?_
  injection h with h
  subst h
  exact ends (Weak.refl _) rfl trivial
def impl_ue_res (r : ByteArray) : AV := .sv (.str r)
def impl_ue_obs (r : ByteArray) : Objs := []
theorem impl_ue_ac {p0 : Int} {r : ByteArray} (h : impl_ue p0 = some r) : AC Try.prog 225 [.sv (.int .i64 p0)] [] (impl_ue_res r) (impl_ue_obs r) := by
  refine ac_of_body hT Try.func225 rfl fun C hC => ?_
  unfold impl_ue at h
  refine s_reg ?_
  refine v_op hT hC rfl rfl rfl rfl trivial ?_
  refine Vc.nil ?_
  refine s_reg ?_
  iterate 4 refine v_op hT hC rfl rfl rfl rfl trivial ?_
  obtain ⟨q1, hq, h⟩ := bnd_some h
  refine v_call hC [] rfl rfl rfl rfl Try.call273 (impl_figuresOf_ac hq) rfl (by decide) trivial rfl (.inl rfl) rfl ?_
  iterate 2 refine v_op hT hC rfl rfl rfl rfl trivial ?_
  obtain ⟨q2, hq, h⟩ := bnd_some h
  refine v_call hC [] rfl rfl rfl rfl Try.call226 (impl_signs_ac hq) rfl (by decide) trivial rfl (.inl rfl) rfl ?_
  refine v_op hT hC rfl rfl rfl rfl trivial ?_
  refine Vc.nil ?_
  refine aw_ret ?_
  injection h with h
  subst h
  exact ends (Weak.refl _) rfl trivial
def impl_UeRow_res (r : (ByteArray × Bool)) : AV := .tup [.sv (.str r.1), .sv (.bool r.2)]
def impl_UeRow_obs (r : (ByteArray × Bool)) : Objs := []
theorem impl_UeRow_ac {p0 : Int} {r : (ByteArray × Bool)} (h : impl_UeRow p0 = some r) : AC Try.prog 194 [.sv (.int .i64 p0)] [] (impl_UeRow_res r) (impl_UeRow_obs r) := by
  refine ac_of_body hT Try.func194 rfl fun C hC => ?_
  unfold impl_UeRow at h
  refine s_reg ?_
  iterate 2 refine v_op hT hC rfl rfl rfl rfl trivial ?_
  refine Vc.nil ?_
  refine s_in ?_
  refine s_reg ?_
  refine v_op hT hC rfl rfl rfl rfl trivial ?_
  obtain ⟨q1, hq, h⟩ := bnd_some h
  refine v_call hC [] rfl rfl rfl rfl Try.call102 (impl_within_ac hq) rfl (by decide) trivial rfl (.inl rfl) rfl ?_
  refine v_op hT hC rfl rfl rfl rfl trivial ?_
  refine Vc.nil ?_
  rcases sel_some h with ⟨hb1, h⟩ | ⟨hb1, h⟩
  · refine s_true rfl hb1 ?_
    refine s_reg ?_
    iterate 2 refine v_op hT hC rfl rfl rfl rfl trivial ?_
    refine Vc.nil ?_
    refine aw_ret ?_
    refine t_ret ?_
    injection h with h
    subst h
    exact ends (Weak.refl _) rfl trivial
  · refine s_false rfl hb1 ?_
    refine aw_skip ?_
    refine t_norm ?_
    refine s_reg ?_
    refine v_op hT hC rfl rfl rfl rfl trivial ?_
    obtain ⟨q2, hq, h⟩ := bnd_some h
    refine v_call hC [] rfl rfl rfl rfl Try.call225 (impl_ue_ac hq) rfl (by decide) trivial rfl (.inl rfl) rfl ?_
    iterate 2 refine v_op hT hC rfl rfl rfl rfl trivial ?_
    refine Vc.nil ?_
    refine aw_ret ?_
    injection h with h
    subst h
    exact ends (Weak.refl _) rfl trivial
def impl_SeRow_res (r : (ByteArray × Bool)) : AV := .tup [.sv (.str r.1), .sv (.bool r.2)]
def impl_SeRow_obs (r : (ByteArray × Bool)) : Objs := []
theorem impl_SeRow_ac {p0 : Int} {r : (ByteArray × Bool)} (h : impl_SeRow p0 = some r) : AC Try.prog 114 [.sv (.int .i64 p0)] [] (impl_SeRow_res r) (impl_SeRow_obs r) := by
  refine ac_of_body hT Try.func114 rfl fun C hC => ?_
  unfold impl_SeRow at h
  refine s_reg ?_
  iterate 2 refine v_op hT hC rfl rfl rfl rfl trivial ?_
  refine Vc.nil ?_
  refine s_reg ?_
  refine v_op hT hC rfl rfl rfl rfl trivial ?_
  obtain ⟨q1, hq, h⟩ := bnd_some h
  refine v_call hC [] rfl rfl rfl rfl Try.call193 (impl_FoldSe_ac hq) rfl (by decide) trivial rfl (.inl rfl) rfl ?_
  iterate 5 refine v_op hT hC rfl rfl rfl rfl trivial ?_
  refine Vc.nil ?_
  refine s_in ?_
  refine s_reg ?_
  iterate 2 refine v_op hT hC rfl rfl rfl rfl trivial ?_
  refine Vc.nil ?_
  rcases sel_some h with ⟨hb1, h⟩ | ⟨hb1, h⟩
  · refine s_true rfl hb1 ?_
    refine s_reg ?_
    iterate 2 refine v_op hT hC rfl rfl rfl rfl trivial ?_
    refine Vc.nil ?_
    refine aw_ret ?_
    refine t_ret ?_
    injection h with h
    subst h
    exact ends (Weak.refl _) rfl trivial
  · refine s_false rfl hb1 ?_
    refine aw_skip ?_
    refine t_norm ?_
    refine s_reg ?_
    refine v_op hT hC rfl rfl rfl rfl trivial ?_
    obtain ⟨q2, hq, h⟩ := bnd_some h
    refine v_call hC [] rfl rfl rfl rfl Try.call194 (impl_UeRow_ac hq) rfl (by decide) trivial rfl (.inl rfl) rfl ?_
    iterate 4 refine v_op hT hC rfl rfl rfl rfl trivial ?_
    refine Vc.nil ?_
    refine aw_ret ?_
    injection h with h
    subst h
    exact ends (Weak.refl _) rfl trivial
def laws_eqIntS_res (r : Bool) : AV := .sv (.bool r)
def laws_eqIntS_obs (r : Bool) : Objs := []
theorem laws_eqIntS_ac {p0 : (List Int)} {p1 : (List Int)} {r : Bool} (h : laws_eqIntS p0 p1 = some r) : AC Try.prog 203 [.sv (.ints .i64 p0), .sv (.ints .i64 p1)] [] (laws_eqIntS_res r) (laws_eqIntS_obs r) := by
  refine ac_of_body hT Try.func203 rfl fun C hC => ?_
  unfold laws_eqIntS at h
  refine s_reg ?_
  refine v_op hT hC rfl rfl rfl rfl trivial ?_
  refine Vc.nil ?_
  refine s_in ?_
  refine s_reg ?_
  iterate 5 refine v_op hT hC rfl rfl rfl rfl trivial ?_
  refine Vc.nil ?_
  rcases sel_some h with ⟨hb1, h⟩ | ⟨hb1, h⟩
  · refine s_true rfl hb1 ?_
    refine s_reg ?_
    refine v_op hT hC rfl rfl rfl rfl trivial ?_
    refine Vc.nil ?_
    refine aw_ret ?_
    refine t_ret ?_
    injection h with h
    subst h
    exact ends (Weak.refl _) rfl trivial
  · refine s_false rfl hb1 ?_
    refine aw_skip ?_
    refine t_norm ?_
    refine s_in ?_
    refine s_reg ?_
    refine v_op hT hC rfl rfl rfl rfl trivial ?_
    refine Vc.nil ?_
    refine live [0, 1, 5] [] (s' := [_, _, _]) (o' := []) rfl rfl ?_
    obtain ⟨o5, hl, h⟩ := bnd_some h
    refine s_loopR (fun v2 => ([(5, .sv (.int .i64 v2))], [])) (fun v4 => ([(0, .any), (1, .any), (5, .any)], [])) (fun r => EndsA C T Try.f203.results.toList (laws_eqIntS_res r) (laws_eqIntS_obs r)) hl ?_ ?_ ?_ ?_
    · apply w_conv hC []
      · repeat' first | exact CO.nil | apply CO.gone | apply CO.row rfl rfl | apply CO.box rfl rfl | decide
      · rfl
      · decide
      · rfl
    · intro v2 s hs
      have h := hs
      unfold laws_eqIntS_l2 at h
      refine s_in ?_
      refine s_reg ?_
      iterate 4 refine v_op hT hC rfl rfl rfl rfl trivial ?_
      refine Vc.nil ?_
      rcases sel_some h with ⟨hb6, h⟩ | ⟨hb6, h⟩
      · refine s_true rfl hb6 ?_
        refine aw_skip ?_
        refine t_norm ?_
        refine s_in ?_
        refine s_block ?_
        refine s_draw hm ?_
        iterate 2 refine v_op hT hC rfl rfl rfl rfl trivial ?_
        obtain ⟨hq, h⟩ := req_some h
        refine v_op hT hC rfl rfl rfl rfl hq ?_
        iterate 3 refine v_op hT hC rfl rfl rfl rfl trivial ?_
        obtain ⟨hq, h⟩ := req_some h
        refine v_op hT hC rfl rfl rfl rfl hq ?_
        iterate 2 refine v_op hT hC rfl rfl rfl rfl trivial ?_
        refine Vc.nil ⟨by kernel_rfl, ?_⟩
        rcases sel_some h with ⟨hb7, h⟩ | ⟨hb7, h⟩
        · refine s_true rfl hb7 ?_
          refine s_reg ?_
          refine v_op hT hC rfl rfl rfl rfl trivial ?_
          refine Vc.nil ?_
          refine aw_ret ?_
          refine b_ret ?_
          refine t_ret ?_
          injection h with h
          subst h
          refine r_ret ?_
          refine o_ret ?_
          exact ends (Weak.refl _) rfl trivial
        · refine s_false rfl hb7 ?_
          refine aw_skip ?_
          refine b_norm ?_
          refine t_norm ?_
          refine aw_region ?_
          iterate 3 refine v_op hT hC rfl rfl rfl rfl trivial ?_
          refine Vc.nil ?_
          injection h with h
          subst h
          refine r_go ?_
          apply w_conv hC []
          · repeat' first | exact CO.nil | apply CO.gone | apply CO.row rfl rfl | apply CO.box rfl rfl | decide
          · rfl
          · decide
          · rfl
      · refine s_false rfl hb6 ?_
        refine aw_exit ?_
        refine t_exit ?_
        injection h with h
        subst h
        refine r_exit ?_
        refine o_both ?_
        apply w_conv hC []
        · repeat' first | exact CO.nil | apply CO.gone | apply CO.row rfl rfl | apply CO.box rfl rfl | decide
        · rfl
        · decide
        · rfl
    · intro v4 e
      subst e
      refine t_norm ?_
      refine s_reg ?_
      refine v_op hT hC rfl rfl rfl rfl trivial ?_
      refine Vc.nil ?_
      refine aw_ret ?_
      injection h with h
      subst h
      exact ends (Weak.refl _) rfl trivial
    · intro r' σ' e hE
      subst e
      injection h with h
      subst h
      refine t_ret ?_
      exact hE
def laws_szIntS_res (r : Int) : AV := .sv (.int .i64 r)
def laws_szIntS_obs (r : Int) : Objs := []
theorem laws_szIntS_ac {p0 : (List Int)} {p1 : Int} {r : Int} (h : laws_szIntS p0 p1 = some r) : AC Try.prog 211 [.sv (.ints .i64 p0), .sv (.int .i64 p1)] [] (laws_szIntS_res r) (laws_szIntS_obs r) := by
  refine ac_of_body hT Try.func211 rfl fun C hC => ?_
  unfold laws_szIntS at h
  refine s_reg ?_
  refine v_op hT hC rfl rfl rfl rfl trivial ?_
  refine Vc.nil ?_
  refine s_reg ?_
  iterate 5 refine v_op hT hC rfl rfl rfl rfl trivial ?_
  refine Vc.nil ?_
  refine s_in ?_
  refine s_reg ?_
  iterate 2 refine v_op hT hC rfl rfl rfl rfl trivial ?_
  refine Vc.nil ?_
  rcases sel_some h with ⟨hb1, h⟩ | ⟨hb1, h⟩
  · refine s_true rfl hb1 ?_
    refine s_reg ?_
    refine v_op hT hC rfl rfl rfl rfl trivial ?_
    refine Vc.nil ?_
    refine aw_ret ?_
    refine t_ret ?_
    injection h with h
    subst h
    exact ends (Weak.refl _) rfl trivial
  · refine s_false rfl hb1 ?_
    refine aw_skip ?_
    refine t_norm ?_
    refine s_reg ?_
    iterate 2 refine v_op hT hC rfl rfl rfl rfl trivial ?_
    refine Vc.nil ?_
    refine aw_ret ?_
    injection h with h
    subst h
    exact ends (Weak.refl _) rfl trivial
def laws_szSquare_res (r : Int) : AV := .sv (.int .i64 r)
def laws_szSquare_obs (r : Int) : Objs := []
theorem laws_szSquare_ac {p0 : Square} {p1 : Int} {r : Int} (h : laws_szSquare p0 p1 = some r) : AC Try.prog 132 [.agg [.sv (.int .i64 p0.Kind), .sv (.int .i64 p0.Mode), .sv (.int .i64 p0.Dx), .sv (.int .i64 p0.Dy), .sv (.ints .i64 p0.Levels)], .sv (.int .i64 p1)] [] (laws_szSquare_res r) (laws_szSquare_obs r) := by
  refine ac_of_body hT Try.func132 rfl fun C hC => ?_
  unfold laws_szSquare at h
  refine s_reg ?_
  iterate 2 refine v_op hT hC rfl rfl rfl rfl trivial ?_
  refine Vc.nil ?_
  refine s_reg ?_
  iterate 3 refine v_op hT hC rfl rfl rfl rfl trivial ?_
  obtain ⟨q1, hq, h⟩ := bnd_some h
  refine v_call hC [] rfl rfl rfl rfl Try.call211 (laws_szIntS_ac hq) rfl (by decide) trivial rfl (.inl rfl) rfl ?_
  refine v_op hT hC rfl rfl rfl rfl trivial ?_
  refine Vc.nil ?_
  refine s_in ?_
  refine s_reg ?_
  iterate 2 refine v_op hT hC rfl rfl rfl rfl trivial ?_
  refine Vc.nil ?_
  rcases sel_some h with ⟨hb1, h⟩ | ⟨hb1, h⟩
  · refine s_true rfl hb1 ?_
    refine s_reg ?_
    refine v_op hT hC rfl rfl rfl rfl trivial ?_
    refine Vc.nil ?_
    refine aw_ret ?_
    refine t_ret ?_
    injection h with h
    subst h
    exact ends (Weak.refl _) rfl trivial
  · refine s_false rfl hb1 ?_
    refine aw_skip ?_
    refine t_norm ?_
    refine s_reg ?_
    iterate 2 refine v_op hT hC rfl rfl rfl rfl trivial ?_
    refine Vc.nil ?_
    refine aw_ret ?_
    injection h with h
    subst h
    exact ends (Weak.refl _) rfl trivial
def laws_szSquareS_res (r : Int) : AV := .sv (.int .i64 r)
def laws_szSquareS_obs (r : Int) : Objs := []
theorem laws_szSquareS_ac {p0 : (List Square)} {p1 : Int} {r : Int} (h : laws_szSquareS p0 p1 = some r) : AC Try.prog 47 [.sv (cSquare.sv p0), .sv (.int .i64 p1)] [] (laws_szSquareS_res r) (laws_szSquareS_obs r) := by
  refine ac_of_body hT Try.func47 rfl fun C hC => ?_
  unfold laws_szSquareS at h
  refine s_reg ?_
  refine v_op hT hC rfl rfl rfl rfl trivial ?_
  refine Vc.nil ?_
  refine s_reg ?_
  iterate 5 refine v_op hT hC rfl rfl rfl rfl trivial ?_
  refine Vc.nil ?_
  refine s_in ?_
  refine s_reg ?_
  iterate 2 refine v_op hT hC rfl rfl rfl rfl trivial ?_
  refine Vc.nil ?_
  rcases sel_some h with ⟨hb1, h⟩ | ⟨hb1, h⟩
  · refine s_true rfl hb1 ?_
    refine s_reg ?_
    refine v_op hT hC rfl rfl rfl rfl trivial ?_
    refine Vc.nil ?_
    refine aw_ret ?_
    refine t_ret ?_
    injection h with h
    subst h
    exact ends (Weak.refl _) rfl trivial
  · refine s_false rfl hb1 ?_
    refine aw_skip ?_
    refine t_norm ?_
    refine s_in ?_
    refine s_reg ?_
    refine v_op hT hC rfl rfl rfl rfl trivial ?_
    refine Vc.nil ?_
    refine live [0, 1, 5] [] (s' := [_, _, _]) (o' := []) rfl rfl ?_
    obtain ⟨o8, hl, h⟩ := bnd_some h
    refine s_loopR (fun v3 => ([(1, .sv (.int .i64 v3.1)), (5, .sv (.int .i64 v3.2))], [])) (fun v6 => ([(1, .sv (.int .i64 v6)), (0, .any), (5, .any)], [])) (fun r => EndsA C T Try.f47.results.toList (laws_szSquareS_res r) (laws_szSquareS_obs r)) hl ?_ ?_ ?_ ?_
    · try dsimp only
      apply w_conv hC []
      · repeat' first | exact CO.nil | apply CO.gone | apply CO.row rfl rfl | apply CO.box rfl rfl | decide
      · rfl
      · decide
      · rfl
    · intro v3 s hs
      have h := hs
      unfold laws_szSquareS_l2 at h
      refine s_in ?_
      refine s_reg ?_
      iterate 4 refine v_op hT hC rfl rfl rfl rfl trivial ?_
      refine Vc.nil ?_
      rcases sel_some h with ⟨hb6, h⟩ | ⟨hb6, h⟩
      · refine s_true rfl hb6 ?_
        refine aw_skip ?_
        refine t_norm ?_
        refine s_in ?_
        refine s_block ?_
        refine s_reg ?_
        iterate 2 refine v_op hT hC rfl rfl rfl rfl trivial ?_
        obtain ⟨hq, h⟩ := req_some h
        refine v_op hT hC rfl rfl rfl rfl hq ?_
        iterate 2 refine v_op hT hC rfl rfl rfl rfl trivial ?_
        obtain ⟨q7, hq, h⟩ := bnd_some h
        refine v_call hC [] rfl rfl rfl rfl Try.call132 (laws_szSquare_ac hq) rfl (by decide) trivial rfl (.inl rfl) rfl ?_
        refine v_op hT hC rfl rfl rfl rfl trivial ?_
        refine Vc.nil ?_
        refine s_reg ?_
        iterate 2 refine v_op hT hC rfl rfl rfl rfl trivial ?_
        refine Vc.nil ?_
        rcases sel_some h with ⟨hb7, h⟩ | ⟨hb7, h⟩
        · refine s_true rfl hb7 ?_
          refine s_reg ?_
          refine v_op hT hC rfl rfl rfl rfl trivial ?_
          refine Vc.nil ?_
          refine aw_ret ?_
          refine b_ret ?_
          refine t_ret ?_
          injection h with h
          subst h
          refine r_ret ?_
          refine o_ret ?_
          exact ends (Weak.refl _) rfl trivial
        · refine s_false rfl hb7 ?_
          refine aw_skip ?_
          refine b_norm ?_
          refine t_norm ?_
          refine aw_region ?_
          iterate 3 refine v_op hT hC rfl rfl rfl rfl trivial ?_
          refine Vc.nil ?_
          injection h with h
          subst h
          refine r_go ?_
          try dsimp only
          apply w_conv hC []
          · repeat' first | exact CO.nil | apply CO.gone | apply CO.row rfl rfl | apply CO.box rfl rfl | decide
          · rfl
          · decide
          · rfl
      · refine s_false rfl hb6 ?_
        refine aw_exit ?_
        refine t_exit ?_
        injection h with h
        subst h
        refine r_exit ?_
        refine o_both ?_
        apply w_conv hC []
        · repeat' first | exact CO.nil | apply CO.gone | apply CO.row rfl rfl | apply CO.box rfl rfl | decide
        · rfl
        · decide
        · rfl
    · intro v6 e
      subst e
      refine t_norm ?_
      refine s_reg ?_
      iterate 2 refine v_op hT hC rfl rfl rfl rfl trivial ?_
      refine Vc.nil ?_
      refine aw_ret ?_
      injection h with h
      subst h
      exact ends (Weak.refl _) rfl trivial
    · intro r' σ' e hE
      subst e
      injection h with h
      subst h
      refine t_ret ?_
      exact hE
def laws_toIntS_res (r : (List Int)) : AV := .own 16
def laws_toIntS_obs (r : (List Int)) : Objs := [(16, .ints .i64 r)]
theorem laws_toIntS_ac {p0 : (List Int)} {r : (List Int)} (h : laws_toIntS p0 = some r) : AC Try.prog 213 [.sv (.ints .i64 p0)] [] (laws_toIntS_res r) (laws_toIntS_obs r) := by
  refine ac_of_body hT Try.func213 rfl fun C hC => ?_
  unfold laws_toIntS at h
  refine s_reg ?_
  refine v_op hT hC rfl rfl rfl rfl trivial ?_
  refine Vc.nil ?_
  refine s_reg ?_
  iterate 2 refine v_op hT hC rfl rfl rfl rfl trivial ?_
  obtain ⟨hq, h⟩ := req_some h
  refine v_op hT hC rfl rfl rfl rfl ⟨hq.1, hq.2.1, hq.2.2, by decide⟩ ?_
  refine v_op hT hC rfl rfl rfl rfl trivial ?_
  refine Vc.nil ?_
  refine s_in ?_
  refine s_reg ?_
  refine v_op hT hC rfl rfl rfl rfl trivial ?_
  refine Vc.nil ?_
  refine live [0, 3, 4] [112] (s' := [_, _, _]) (o' := [_]) rfl rfl ?_
  obtain ⟨v4, hl, h⟩ := bnd_some h
  refine s_loop (fun v2 => ([(4, .sv (.int .i64 v2.1))], [(112, some (.ints .i64 v2.2))])) (fun v4 => ([(0, .any), (4, .any)], [(112, some (.ints .i64 v4))])) hl ?_ ?_ ?_
  · try dsimp only
    apply w_conv hC []
    · repeat' first | exact CO.nil | apply CO.gone | apply CO.row rfl rfl | apply CO.box rfl rfl | decide
    · rfl
    · decide
    · rfl
  · intro v2 s hs
    have h := hs
    unfold laws_toIntS_l2 at h
    refine s_in ?_
    refine s_reg ?_
    iterate 4 refine v_op hT hC rfl rfl rfl rfl trivial ?_
    refine Vc.nil ?_
    rcases sel_some h with ⟨hb3, h⟩ | ⟨hb3, h⟩
    · refine s_true rfl hb3 ?_
      refine aw_skip ?_
      refine t_norm ?_
      refine s_in ?_
      refine s_block ?_
      refine aw_region ?_
      iterate 4 refine v_op hT hC rfl rfl rfl rfl trivial ?_
      obtain ⟨hq, h⟩ := req_some h
      refine v_op hT hC rfl rfl rfl rfl hq ?_
      refine v_op hT hC rfl rfl rfl rfl trivial ?_
      obtain ⟨hq, h⟩ := req_some h
      refine v_op hT hC rfl rfl rfl rfl hq ?_
      obtain ⟨hq, h⟩ := req_some h
      refine v_op hT hC rfl rfl rfl rfl hq ?_
      refine Vc.nil ?_
      refine b_norm ?_
      refine t_norm ?_
      refine aw_region ?_
      iterate 3 refine v_op hT hC rfl rfl rfl rfl trivial ?_
      refine Vc.nil ?_
      injection h with h
      subst h
      refine r_go ?_
      try dsimp only
      apply w_conv hC []
      · repeat' first | exact CO.nil | apply CO.gone | apply CO.row rfl rfl | apply CO.box rfl rfl | decide
      · rfl
      · decide
      · rfl
    · refine s_false rfl hb3 ?_
      refine aw_exit ?_
      refine t_exit ?_
      injection h with h
      subst h
      refine r_exit ?_
      refine o_out ?_
      apply w_conv hC []
      · repeat' first | exact CO.nil | apply CO.gone | apply CO.row rfl rfl | apply CO.box rfl rfl | decide
      · rfl
      · decide
      · rfl
  refine t_norm ?_
  refine s_reg ?_
  iterate 2 refine v_op hT hC rfl rfl rfl rfl trivial ?_
  refine Vc.nil ?_
  refine aw_ret ?_
  injection h with h
  subst h
  refine ends (τ := ⟨[(2, .own 16)], [(16, some (.ints .i64 v4))]⟩) ?_ rfl ⟨rfl, trivial⟩
  apply w_conv hC [(16, 112)]
  · repeat' first | exact CO.nil | apply CO.gone | apply CO.row rfl rfl | apply CO.box rfl rfl | decide
  · rfl
  · decide
  · rfl
def laws_toSquare_res (r : Square) : AV := .agg [.sv (.int .i64 r.Kind), .sv (.int .i64 r.Mode), .sv (.int .i64 r.Dx), .sv (.int .i64 r.Dy), .own 16]
def laws_toSquare_obs (r : Square) : Objs := [(16, .ints .i64 r.Levels)]
theorem laws_toSquare_ac {p0 : Square} {r : Square} (h : laws_toSquare p0 = some r) : AC Try.prog 134 [.agg [.sv (.int .i64 p0.Kind), .sv (.int .i64 p0.Mode), .sv (.int .i64 p0.Dx), .sv (.int .i64 p0.Dy), .sv (.ints .i64 p0.Levels)]] [] (laws_toSquare_res r) (laws_toSquare_obs r) := by
  refine ac_of_body hT Try.func134 rfl fun C hC => ?_
  unfold laws_toSquare at h
  refine s_reg ?_
  iterate 2 refine v_op hT hC rfl rfl rfl rfl trivial ?_
  refine Vc.nil ?_
  refine s_reg ?_
  refine v_op hT hC rfl rfl rfl rfl trivial ?_
  refine Vc.nil ?_
  refine s_reg ?_
  iterate 4 refine v_op hT hC rfl rfl rfl rfl trivial ?_
  refine Vc.nil ?_
  refine s_reg ?_
  iterate 4 refine v_op hT hC rfl rfl rfl rfl trivial ?_
  refine Vc.nil ?_
  refine s_reg ?_
  iterate 4 refine v_op hT hC rfl rfl rfl rfl trivial ?_
  refine Vc.nil ?_
  refine s_reg ?_
  iterate 4 refine v_op hT hC rfl rfl rfl rfl trivial ?_
  refine Vc.nil ?_
  refine s_reg ?_
  iterate 2 refine v_op hT hC rfl rfl rfl rfl trivial ?_
  obtain ⟨q1, hq, h⟩ := bnd_some h
  refine v_call hC [(16, 288)] rfl rfl rfl rfl Try.call213 (laws_toIntS_ac hq) rfl (by decide) trivial rfl (.inl rfl) rfl ?_
  iterate 2 refine v_op hT hC rfl rfl rfl rfl trivial ?_
  refine Vc.nil ?_
  refine s_reg ?_
  iterate 2 refine v_op hT hC rfl rfl rfl rfl trivial ?_
  refine Vc.nil ?_
  refine aw_ret ?_
  injection h with h
  subst h
  refine ends (τ := ⟨[(2, .ptr 2000000 0)], [(16, some (.ints .i64 q1)), (2000000, some (.box [.sv (.int .i64 p0.Kind), .sv (.int .i64 p0.Mode), .sv (.int .i64 p0.Dx), .sv (.int .i64 p0.Dy), .own 16]))]⟩) ?_ rfl ⟨rfl, trivial⟩
  apply w_conv hC [(16, 288), (2000000, 32)]
  · repeat' first | exact CO.nil | apply CO.gone | apply CO.row rfl rfl | apply CO.box rfl rfl | decide
  · rfl
  · decide
  · rfl
def laws_toSquareS_res (r : (List Square)) : AV := .own 16
def laws_toSquareS_obs (r : (List Square)) : Objs := [(16, .row cSquare r)]
theorem laws_toSquareS_ac {p0 : (List Square)} {r : (List Square)} (h : laws_toSquareS p0 = some r) : AC Try.prog 49 [.sv (cSquare.sv p0)] [] (laws_toSquareS_res r) (laws_toSquareS_obs r) := by
  refine ac_of_body hT Try.func49 rfl fun C hC => ?_
  unfold laws_toSquareS at h
  refine s_reg ?_
  refine v_op hT hC rfl rfl rfl rfl trivial ?_
  refine Vc.nil ?_
  refine s_reg ?_
  iterate 2 refine v_op hT hC rfl rfl rfl rfl trivial ?_
  obtain ⟨hq, h⟩ := req_some h
  refine v_op hT hC rfl rfl rfl rfl ⟨hq.1, hq.2.1, hq.2.2, by decide⟩ ?_
  refine v_op hT hC rfl rfl rfl rfl trivial ?_
  refine Vc.nil ?_
  refine s_in ?_
  refine s_reg ?_
  refine v_op hT hC rfl rfl rfl rfl trivial ?_
  refine Vc.nil ?_
  refine live [0, 3, 4] [112] (s' := [_, _, _]) (o' := [_]) rfl rfl ?_
  obtain ⟨v8, hl, h⟩ := bnd_some h
  refine s_loop (fun v4 => ([(4, .sv (.int .i64 v4.1))], [(112, some (.row cSquare v4.2))])) (fun v8 => ([(0, .any), (4, .any)], [(112, some (.row cSquare v8))])) hl ?_ ?_ ?_
  · try dsimp only
    apply w_conv hC []
    · repeat' first | exact CO.nil | apply CO.gone | apply CO.row rfl rfl | apply CO.box rfl rfl | decide
    · rfl
    · decide
    · rfl
  · intro v4 s hs
    have h := hs
    unfold laws_toSquareS_l2 at h
    refine s_in ?_
    refine s_reg ?_
    iterate 4 refine v_op hT hC rfl rfl rfl rfl trivial ?_
    refine Vc.nil ?_
    rcases sel_some h with ⟨hb3, h⟩ | ⟨hb3, h⟩
    · refine s_true rfl hb3 ?_
      refine aw_skip ?_
      refine t_norm ?_
      refine s_in ?_
      refine s_block ?_
      refine aw_region ?_
      iterate 4 refine v_op hT hC rfl rfl rfl rfl trivial ?_
      obtain ⟨hq, h⟩ := req_some h
      refine v_op hT hC rfl rfl rfl rfl hq ?_
      refine v_op hT hC rfl rfl rfl rfl trivial ?_
      obtain ⟨q9, hq, h⟩ := bnd_some h
      refine v_call hC [(16, 320)] rfl rfl rfl rfl Try.call134 (laws_toSquare_ac hq) rfl (by decide) trivial rfl (.inl rfl) rfl ?_
      obtain ⟨hq, h⟩ := req_some h
      refine v_op hT hC rfl rfl rfl rfl hq ?_
      obtain ⟨hq, h⟩ := req_some h
      obtain ⟨s10, hs, h⟩ := bnd_some h
      injection hs with hs
      refine v_op hT hC rfl rfl rfl rfl hq ?_
      rw [hs]
      refine Vc.nil ?_
      refine b_norm ?_
      refine t_norm ?_
      refine aw_region ?_
      iterate 3 refine v_op hT hC rfl rfl rfl rfl trivial ?_
      refine Vc.nil ?_
      injection h with h
      subst h
      refine r_go ?_
      try dsimp only
      apply w_conv hC []
      · repeat' first | exact CO.nil | apply CO.gone | apply CO.row rfl rfl | apply CO.box rfl rfl | decide
      · rfl
      · decide
      · rfl
    · refine s_false rfl hb3 ?_
      refine aw_exit ?_
      refine t_exit ?_
      injection h with h
      subst h
      refine r_exit ?_
      refine o_out ?_
      apply w_conv hC []
      · repeat' first | exact CO.nil | apply CO.gone | apply CO.row rfl rfl | apply CO.box rfl rfl | decide
      · rfl
      · decide
      · rfl
  refine t_norm ?_
  refine s_reg ?_
  iterate 2 refine v_op hT hC rfl rfl rfl rfl trivial ?_
  refine Vc.nil ?_
  refine aw_ret ?_
  injection h with h
  subst h
  refine ends (τ := ⟨[(2, .own 16)], [(16, some (.row cSquare v8))]⟩) ?_ rfl ⟨rfl, trivial⟩
  apply w_conv hC [(16, 112)]
  · repeat' first | exact CO.nil | apply CO.gone | apply CO.row rfl rfl | apply CO.box rfl rfl | decide
  · rfl
  · decide
  · rfl
def laws_toCond_res (r : Cond) : AV := .agg [.sv (.bool r.Key), .sv (.int .i64 r.Qp), .sv (.bool r.Large), .sv (.bool r.Exact)]
def laws_toCond_obs (r : Cond) : Objs := []
theorem laws_toCond_ac {p0 : Cond} {r : Cond} (h : laws_toCond p0 = some r) : AC Try.prog 50 [.agg [.sv (.bool p0.Key), .sv (.int .i64 p0.Qp), .sv (.bool p0.Large), .sv (.bool p0.Exact)]] [] (laws_toCond_res r) (laws_toCond_obs r) := by
  refine ac_of_body hT Try.func50 rfl fun C hC => ?_
  unfold laws_toCond at h
  refine s_reg ?_
  iterate 2 refine v_op hT hC rfl rfl rfl rfl trivial ?_
  refine Vc.nil ?_
  refine s_reg ?_
  refine v_op hT hC rfl rfl rfl rfl trivial ?_
  refine Vc.nil ?_
  refine s_reg ?_
  iterate 4 refine v_op hT hC rfl rfl rfl rfl trivial ?_
  refine Vc.nil ?_
  refine s_reg ?_
  iterate 4 refine v_op hT hC rfl rfl rfl rfl trivial ?_
  refine Vc.nil ?_
  refine s_reg ?_
  iterate 4 refine v_op hT hC rfl rfl rfl rfl trivial ?_
  refine Vc.nil ?_
  refine s_reg ?_
  iterate 4 refine v_op hT hC rfl rfl rfl rfl trivial ?_
  refine Vc.nil ?_
  refine s_reg ?_
  iterate 2 refine v_op hT hC rfl rfl rfl rfl trivial ?_
  refine Vc.nil ?_
  refine aw_ret ?_
  injection h with h
  subst h
  exact ends (Weak.refl _) rfl trivial
def spec_CondOk_res (r : Bool) : AV := .sv (.bool r)
def spec_CondOk_obs (r : Bool) : Objs := []
theorem spec_CondOk_ac {p0 : Cond} {r : Bool} (h : spec_CondOk p0 = some r) : AC Try.prog 254 [.agg [.sv (.bool p0.Key), .sv (.int .i64 p0.Qp), .sv (.bool p0.Large), .sv (.bool p0.Exact)]] [] (spec_CondOk_res r) (spec_CondOk_obs r) := by
  refine ac_of_body hT Try.func254 rfl fun C hC => ?_
  unfold spec_CondOk at h
  refine s_reg ?_
  iterate 2 refine v_op hT hC rfl rfl rfl rfl trivial ?_
  refine Vc.nil ?_
  refine live [1, 2] [16] (s' := [_, _]) (o' := [_]) rfl rfl ?_
  obtain ⟨v1, h1, h⟩ := bnd_some h
  refine aw_to ([(2, .sv (.bool v1)), (1, .any)], [(16, none)]) ?_ ?_
  · have h := h1
    refine aw_region ?_
    iterate 2 refine v_op hT hC rfl rfl rfl rfl trivial ?_
    obtain ⟨q2, hq, h⟩ := bnd_some h
    refine v_call hC [] rfl rfl rfl rfl Try.call106 (spec_l01In_ac hq) rfl (by decide) trivial rfl (.inl rfl) rfl ?_
    refine v_op hT hC rfl rfl rfl rfl trivial ?_
    rcases sel_some h with ⟨hb1, h⟩ | ⟨hb1, h⟩
    · iterate 3 refine v_on hT hC rfl rfl rfl rfl hb1 rfl rfl rfl trivial ?_
      rcases sel_some h with ⟨hb2, h⟩ | ⟨hb2, h⟩
      · iterate 2 refine v_on hT hC rfl rfl rfl rfl hb2 rfl rfl rfl trivial ?_
        refine v_pick_on hC rfl rfl rfl rfl hb1 rfl rfl (b := true) hb2 rfl rfl rfl trivial ?_
        refine v_on hT hC rfl rfl rfl rfl hb1 rfl rfl rfl trivial ?_
        refine v_pick hC rfl rfl rfl (b := true) hb1 rfl rfl rfl trivial ?_
        refine v_op hT hC rfl rfl rfl rfl trivial ?_
        refine Vc.nil ?_
        injection h with h
        subst h
        refine m_norm ?_
        apply w_conv hC []
        · repeat' first | exact CO.nil | apply CO.gone | apply CO.row rfl rfl | apply CO.box rfl rfl | decide
        · rfl
        · decide
        · rfl
      · refine v_off hC rfl rfl rfl rfl hb2 rfl rfl ?_
        refine v_off hC rfl rfl rfl rfl hb2 rfl rfl ?_
        refine v_pick_on hC rfl rfl rfl rfl hb1 rfl rfl (b := false) hb2 rfl rfl rfl trivial ?_
        refine v_on hT hC rfl rfl rfl rfl hb1 rfl rfl rfl trivial ?_
        refine v_pick hC rfl rfl rfl (b := true) hb1 rfl rfl rfl trivial ?_
        refine v_op hT hC rfl rfl rfl rfl trivial ?_
        refine Vc.nil ?_
        injection h with h
        subst h
        refine m_norm ?_
        apply w_conv hC []
        · repeat' first | exact CO.nil | apply CO.gone | apply CO.row rfl rfl | apply CO.box rfl rfl | decide
        · rfl
        · decide
        · rfl
    · refine v_off hC rfl rfl rfl rfl hb1 rfl rfl ?_
      refine v_off hC rfl rfl rfl rfl hb1 rfl rfl ?_
      refine v_off hC rfl rfl rfl rfl hb1 rfl rfl ?_
      iterate 2 refine v_dead hC rfl rfl rfl rfl rfl rfl ?_
      refine v_off hC rfl rfl rfl rfl hb1 rfl rfl ?_
      refine v_off hC rfl rfl rfl rfl hb1 rfl rfl ?_
      refine v_pick hC rfl rfl rfl (b := false) hb1 rfl rfl rfl trivial ?_
      refine v_op hT hC rfl rfl rfl rfl trivial ?_
      refine Vc.nil ?_
      injection h with h
      subst h
      refine m_norm ?_
      apply w_conv hC []
      · repeat' first | exact CO.nil | apply CO.gone | apply CO.row rfl rfl | apply CO.box rfl rfl | decide
      · rfl
      · decide
      · rfl
  refine aw_ret ?_
  injection h with h
  subst h
  exact ends (Weak.refl _) rfl trivial
def spec_l09All_res (r : Bool) : AV := .sv (.bool r)
def spec_l09All_obs (r : Bool) : Objs := []
theorem spec_l09All_ac {p0 : (List Int)} {p1 : Int} {p2 : Int} {r : Bool} (h : spec_l09All p0 p1 p2 = some r) : AC Try.prog 289 [.sv (.ints .i64 p0), .sv (.int .i64 p1), .sv (.int .i64 p2)] [] (spec_l09All_res r) (spec_l09All_obs r) := by
  refine ac_of_body hT Try.func289 rfl fun C hC => ?_
  unfold spec_l09All at h
  refine s_reg ?_
  refine v_op hT hC rfl rfl rfl rfl trivial ?_
  refine Vc.nil ?_
  refine s_in ?_
  refine s_reg ?_
  iterate 4 refine v_op hT hC rfl rfl rfl rfl trivial ?_
  refine Vc.nil ?_
  rcases sel_some h with ⟨hb1, h⟩ | ⟨hb1, h⟩
  · refine s_true rfl hb1 ?_
    refine s_reg ?_
    refine v_op hT hC rfl rfl rfl rfl trivial ?_
    refine Vc.nil ?_
    refine aw_ret ?_
    refine t_ret ?_
    injection h with h
    subst h
    exact ends (Weak.refl _) rfl trivial
  · refine s_false rfl hb1 ?_
    refine aw_skip ?_
    refine t_norm ?_
    refine s_in ?_
    refine s_reg ?_
    refine v_op hT hC rfl rfl rfl rfl trivial ?_
    refine Vc.nil ?_
    refine live [0, 1, 2, 7] [] (s' := [_, _, _, _]) (o' := []) rfl rfl ?_
    obtain ⟨o8, hl, h⟩ := bnd_some h
    refine s_loopR (fun v3 => ([(7, .sv (.int .i64 v3))], [])) (fun v6 => ([(0, .any), (1, .any), (2, .any), (7, .any)], [])) (fun r => EndsA C T Try.f289.results.toList (spec_l09All_res r) (spec_l09All_obs r)) hl ?_ ?_ ?_ ?_
    · apply w_conv hC []
      · repeat' first | exact CO.nil | apply CO.gone | apply CO.row rfl rfl | apply CO.box rfl rfl | decide
      · rfl
      · decide
      · rfl
    · intro v3 s hs
      have h := hs
      unfold spec_l09All_l2 at h
      refine s_in ?_
      refine s_reg ?_
      iterate 3 refine v_op hT hC rfl rfl rfl rfl trivial ?_
      refine Vc.nil ?_
      rcases sel_some h with ⟨hb6, h⟩ | ⟨hb6, h⟩
      · refine s_true rfl hb6 ?_
        refine aw_skip ?_
        refine t_norm ?_
        refine s_in ?_
        refine s_block ?_
        refine s_reg ?_
        iterate 2 refine v_op hT hC rfl rfl rfl rfl trivial ?_
        obtain ⟨hq, h⟩ := req_some h
        refine v_op hT hC rfl rfl rfl rfl hq ?_
        iterate 4 refine v_op hT hC rfl rfl rfl rfl trivial ?_
        obtain ⟨q7, hq, h⟩ := bnd_some h
        refine v_call hC [] rfl rfl rfl rfl Try.call106 (spec_l01In_ac hq) rfl (by decide) trivial rfl (.inl rfl) rfl ?_
        refine v_op hT hC rfl rfl rfl rfl trivial ?_
        refine Vc.nil ?_
        rcases sel_some h with ⟨hb7, h⟩ | ⟨hb7, h⟩
        · refine s_true rfl hb7 ?_
          refine s_reg ?_
          refine v_op hT hC rfl rfl rfl rfl trivial ?_
          refine Vc.nil ?_
          refine aw_ret ?_
          refine b_ret ?_
          refine t_ret ?_
          injection h with h
          subst h
          refine r_ret ?_
          refine o_ret ?_
          exact ends (Weak.refl _) rfl trivial
        · refine s_false rfl hb7 ?_
          refine aw_skip ?_
          refine b_norm ?_
          refine t_norm ?_
          refine aw_region ?_
          iterate 3 refine v_op hT hC rfl rfl rfl rfl trivial ?_
          refine Vc.nil ?_
          injection h with h
          subst h
          refine r_go ?_
          apply w_conv hC []
          · repeat' first | exact CO.nil | apply CO.gone | apply CO.row rfl rfl | apply CO.box rfl rfl | decide
          · rfl
          · decide
          · rfl
      · refine s_false rfl hb6 ?_
        refine aw_exit ?_
        refine t_exit ?_
        injection h with h
        subst h
        refine r_exit ?_
        refine o_both ?_
        apply w_conv hC []
        · repeat' first | exact CO.nil | apply CO.gone | apply CO.row rfl rfl | apply CO.box rfl rfl | decide
        · rfl
        · decide
        · rfl
    · intro v6 e
      subst e
      refine t_norm ?_
      refine s_reg ?_
      refine v_op hT hC rfl rfl rfl rfl trivial ?_
      refine Vc.nil ?_
      refine aw_ret ?_
      injection h with h
      subst h
      exact ends (Weak.refl _) rfl trivial
    · intro r' σ' e hE
      subst e
      injection h with h
      subst h
      refine t_ret ?_
      exact hE
def spec_SquareOk_res (r : Bool) : AV := .sv (.bool r)
def spec_SquareOk_obs (r : Bool) : Objs := []
theorem spec_SquareOk_ac {p0 : Square} {r : Bool} (h : spec_SquareOk p0 = some r) : AC Try.prog 255 [.agg [.sv (.int .i64 p0.Kind), .sv (.int .i64 p0.Mode), .sv (.int .i64 p0.Dx), .sv (.int .i64 p0.Dy), .sv (.ints .i64 p0.Levels)]] [] (spec_SquareOk_res r) (spec_SquareOk_obs r) := by
  refine ac_of_body hT Try.func255 rfl fun C hC => ?_
  unfold spec_SquareOk at h
  refine s_reg ?_
  iterate 2 refine v_op hT hC rfl rfl rfl rfl trivial ?_
  refine Vc.nil ?_
  refine s_in ?_
  refine s_reg ?_
  iterate 2 refine v_op hT hC rfl rfl rfl rfl trivial ?_
  refine Vc.nil ?_
  refine s_block ?_
  refine s_reg ?_
  iterate 2 refine v_op hT hC rfl rfl rfl rfl trivial ?_
  refine Vc.nil ?_
  rcases sel_some h with ⟨hb1, h⟩ | ⟨hb1, h⟩
  · refine s_true rfl hb1 ?_
    refine live [1, 2] [16] (s' := [_, _]) (o' := [_]) rfl rfl ?_
    obtain ⟨v1, h1, h⟩ := bnd_some h
    refine aw_to ([(2, .sv (.bool v1)), (1, .any)], [(16, none)]) ?_ ?_
    · have h := h1
      refine aw_region ?_
      iterate 4 refine v_op hT hC rfl rfl rfl rfl trivial ?_
      rcases sel_some h with ⟨hb2, h⟩ | ⟨hb2, h⟩
      · iterate 3 refine v_on hT hC rfl rfl rfl rfl hb2 rfl rfl rfl trivial ?_
        refine v_pick hC rfl rfl rfl (b := true) hb2 rfl rfl rfl trivial ?_
        refine v_op hT hC rfl rfl rfl rfl trivial ?_
        rcases sel_some h with ⟨hb3, h⟩ | ⟨hb3, h⟩
        · iterate 3 refine v_on hT hC rfl rfl rfl rfl hb3 rfl rfl rfl trivial ?_
          refine v_pick hC rfl rfl rfl (b := true) hb3 rfl rfl rfl trivial ?_
          refine v_op hT hC rfl rfl rfl rfl trivial ?_
          rcases sel_some h with ⟨hb4, h⟩ | ⟨hb4, h⟩
          · iterate 4 refine v_on hT hC rfl rfl rfl rfl hb4 rfl rfl rfl trivial ?_
            refine v_pick hC rfl rfl rfl (b := true) hb4 rfl rfl rfl trivial ?_
            refine v_op hT hC rfl rfl rfl rfl trivial ?_
            refine Vc.nil ?_
            injection h with h
            subst h
            refine m_norm ?_
            apply w_conv hC []
            · repeat' first | exact CO.nil | apply CO.gone | apply CO.row rfl rfl | apply CO.box rfl rfl | decide
            · rfl
            · decide
            · rfl
          · refine v_off hC rfl rfl rfl rfl hb4 rfl rfl ?_
            refine v_off hC rfl rfl rfl rfl hb4 rfl rfl ?_
            refine v_off hC rfl rfl rfl rfl hb4 rfl rfl ?_
            refine v_off hC rfl rfl rfl rfl hb4 rfl rfl ?_
            refine v_pick hC rfl rfl rfl (b := false) hb4 rfl rfl rfl trivial ?_
            refine v_op hT hC rfl rfl rfl rfl trivial ?_
            refine Vc.nil ?_
            injection h with h
            subst h
            refine m_norm ?_
            apply w_conv hC []
            · repeat' first | exact CO.nil | apply CO.gone | apply CO.row rfl rfl | apply CO.box rfl rfl | decide
            · rfl
            · decide
            · rfl
        · refine v_off hC rfl rfl rfl rfl hb3 rfl rfl ?_
          refine v_off hC rfl rfl rfl rfl hb3 rfl rfl ?_
          refine v_off hC rfl rfl rfl rfl hb3 rfl rfl ?_
          refine v_pick hC rfl rfl rfl (b := false) hb3 rfl rfl rfl trivial ?_
          refine v_op hT hC rfl rfl rfl rfl trivial ?_
          refine v_off hC rfl rfl rfl rfl rfl rfl rfl ?_
          refine v_off hC rfl rfl rfl rfl rfl rfl rfl ?_
          refine v_off hC rfl rfl rfl rfl rfl rfl rfl ?_
          refine v_off hC rfl rfl rfl rfl rfl rfl rfl ?_
          iterate 2 refine v_op hT hC rfl rfl rfl rfl trivial ?_
          refine Vc.nil ?_
          injection h with h
          subst h
          refine m_norm ?_
          apply w_conv hC []
          · repeat' first | exact CO.nil | apply CO.gone | apply CO.row rfl rfl | apply CO.box rfl rfl | decide
          · rfl
          · decide
          · rfl
      · refine v_off hC rfl rfl rfl rfl hb2 rfl rfl ?_
        refine v_off hC rfl rfl rfl rfl hb2 rfl rfl ?_
        refine v_off hC rfl rfl rfl rfl hb2 rfl rfl ?_
        refine v_pick hC rfl rfl rfl (b := false) hb2 rfl rfl rfl trivial ?_
        refine v_op hT hC rfl rfl rfl rfl trivial ?_
        refine v_off hC rfl rfl rfl rfl rfl rfl rfl ?_
        refine v_off hC rfl rfl rfl rfl rfl rfl rfl ?_
        refine v_off hC rfl rfl rfl rfl rfl rfl rfl ?_
        iterate 2 refine v_op hT hC rfl rfl rfl rfl trivial ?_
        refine v_off hC rfl rfl rfl rfl rfl rfl rfl ?_
        refine v_off hC rfl rfl rfl rfl rfl rfl rfl ?_
        refine v_off hC rfl rfl rfl rfl rfl rfl rfl ?_
        refine v_off hC rfl rfl rfl rfl rfl rfl rfl ?_
        iterate 2 refine v_op hT hC rfl rfl rfl rfl trivial ?_
        refine Vc.nil ?_
        injection h with h
        subst h
        refine m_norm ?_
        apply w_conv hC []
        · repeat' first | exact CO.nil | apply CO.gone | apply CO.row rfl rfl | apply CO.box rfl rfl | decide
        · rfl
        · decide
        · rfl
    refine aw_ret ?_
    refine b_ret ?_
    refine t_ret ?_
    injection h with h
    subst h
    exact ends (Weak.refl _) rfl trivial
  · refine s_false rfl hb1 ?_
    refine s_reg ?_
    iterate 2 refine v_op hT hC rfl rfl rfl rfl trivial ?_
    refine Vc.nil ?_
    rcases sel_some h with ⟨hb5, h⟩ | ⟨hb5, h⟩
    · refine s_true rfl hb5 ?_
      refine live [1, 2] [16] (s' := [_, _]) (o' := [_]) rfl rfl ?_
      obtain ⟨v2, h1, h⟩ := bnd_some h
      refine aw_to ([(2, .sv (.bool v2)), (1, .any)], [(16, none)]) ?_ ?_
      · have h := h1
        refine aw_region ?_
        iterate 4 refine v_op hT hC rfl rfl rfl rfl trivial ?_
        rcases sel_some h with ⟨hb6, h⟩ | ⟨hb6, h⟩
        · iterate 2 refine v_on hT hC rfl rfl rfl rfl hb6 rfl rfl rfl trivial ?_
          obtain ⟨q3, hq, h⟩ := bnd_some h
          refine v_call_on hC [] rfl rfl rfl rfl hb6 rfl rfl rfl Try.call106 (spec_l01In_ac hq) rfl (by decide) trivial rfl (.inl rfl) rfl ?_
          refine v_pick hC rfl rfl rfl (b := true) hb6 rfl rfl rfl trivial ?_
          refine v_op hT hC rfl rfl rfl rfl trivial ?_
          rcases sel_some h with ⟨hb7, h⟩ | ⟨hb7, h⟩
          · iterate 2 refine v_on hT hC rfl rfl rfl rfl hb7 rfl rfl rfl trivial ?_
            obtain ⟨q4, hq, h⟩ := bnd_some h
            refine v_call_on hC [] rfl rfl rfl rfl hb7 rfl rfl rfl Try.call106 (spec_l01In_ac hq) rfl (by decide) trivial rfl (.inl rfl) rfl ?_
            refine v_pick hC rfl rfl rfl (b := true) hb7 rfl rfl rfl trivial ?_
            refine v_op hT hC rfl rfl rfl rfl trivial ?_
            rcases sel_some h with ⟨hb8, h⟩ | ⟨hb8, h⟩
            · iterate 2 refine v_on hT hC rfl rfl rfl rfl hb8 rfl rfl rfl trivial ?_
              obtain ⟨q5, hq, h⟩ := bnd_some h
              refine v_call_on hC [] rfl rfl rfl rfl hb8 rfl rfl rfl Try.call289 (spec_l09All_ac hq) rfl (by decide) trivial rfl (.inl rfl) rfl ?_
              refine v_pick hC rfl rfl rfl (b := true) hb8 rfl rfl rfl trivial ?_
              refine v_op hT hC rfl rfl rfl rfl trivial ?_
              refine Vc.nil ?_
              injection h with h
              subst h
              refine m_norm ?_
              apply w_conv hC []
              · repeat' first | exact CO.nil | apply CO.gone | apply CO.row rfl rfl | apply CO.box rfl rfl | decide
              · rfl
              · decide
              · rfl
            · refine v_off hC rfl rfl rfl rfl hb8 rfl rfl ?_
              refine v_off hC rfl rfl rfl rfl hb8 rfl rfl ?_
              refine v_off hC rfl rfl rfl rfl hb8 rfl rfl ?_
              refine v_pick hC rfl rfl rfl (b := false) hb8 rfl rfl rfl trivial ?_
              refine v_op hT hC rfl rfl rfl rfl trivial ?_
              refine Vc.nil ?_
              injection h with h
              subst h
              refine m_norm ?_
              apply w_conv hC []
              · repeat' first | exact CO.nil | apply CO.gone | apply CO.row rfl rfl | apply CO.box rfl rfl | decide
              · rfl
              · decide
              · rfl
          · refine v_off hC rfl rfl rfl rfl hb7 rfl rfl ?_
            refine v_off hC rfl rfl rfl rfl hb7 rfl rfl ?_
            refine v_off hC rfl rfl rfl rfl hb7 rfl rfl ?_
            refine v_pick hC rfl rfl rfl (b := false) hb7 rfl rfl rfl trivial ?_
            refine v_op hT hC rfl rfl rfl rfl trivial ?_
            refine v_off hC rfl rfl rfl rfl rfl rfl rfl ?_
            refine v_off hC rfl rfl rfl rfl rfl rfl rfl ?_
            refine v_off hC rfl rfl rfl rfl rfl rfl rfl ?_
            iterate 2 refine v_op hT hC rfl rfl rfl rfl trivial ?_
            refine Vc.nil ?_
            injection h with h
            subst h
            refine m_norm ?_
            apply w_conv hC []
            · repeat' first | exact CO.nil | apply CO.gone | apply CO.row rfl rfl | apply CO.box rfl rfl | decide
            · rfl
            · decide
            · rfl
        · refine v_off hC rfl rfl rfl rfl hb6 rfl rfl ?_
          refine v_off hC rfl rfl rfl rfl hb6 rfl rfl ?_
          refine v_off hC rfl rfl rfl rfl hb6 rfl rfl ?_
          refine v_pick hC rfl rfl rfl (b := false) hb6 rfl rfl rfl trivial ?_
          refine v_op hT hC rfl rfl rfl rfl trivial ?_
          refine v_off hC rfl rfl rfl rfl rfl rfl rfl ?_
          refine v_off hC rfl rfl rfl rfl rfl rfl rfl ?_
          refine v_off hC rfl rfl rfl rfl rfl rfl rfl ?_
          iterate 2 refine v_op hT hC rfl rfl rfl rfl trivial ?_
          refine v_off hC rfl rfl rfl rfl rfl rfl rfl ?_
          refine v_off hC rfl rfl rfl rfl rfl rfl rfl ?_
          refine v_off hC rfl rfl rfl rfl rfl rfl rfl ?_
          iterate 2 refine v_op hT hC rfl rfl rfl rfl trivial ?_
          refine Vc.nil ?_
          injection h with h
          subst h
          refine m_norm ?_
          apply w_conv hC []
          · repeat' first | exact CO.nil | apply CO.gone | apply CO.row rfl rfl | apply CO.box rfl rfl | decide
          · rfl
          · decide
          · rfl
      refine aw_ret ?_
      refine b_ret ?_
      refine t_ret ?_
      injection h with h
      subst h
      exact ends (Weak.refl _) rfl trivial
    · refine s_false rfl hb5 ?_
      refine s_reg ?_
      iterate 2 refine v_op hT hC rfl rfl rfl rfl trivial ?_
      refine Vc.nil ?_
      rcases sel_some h with ⟨hb9, h⟩ | ⟨hb9, h⟩
      · refine s_true rfl hb9 ?_
        refine live [1, 2] [16] (s' := [_, _]) (o' := [_]) rfl rfl ?_
        obtain ⟨v6, h1, h⟩ := bnd_some h
        refine aw_to ([(2, .sv (.bool v6)), (1, .any)], [(16, none)]) ?_ ?_
        · have h := h1
          refine aw_region ?_
          iterate 2 refine v_op hT hC rfl rfl rfl rfl trivial ?_
          obtain ⟨q7, hq, h⟩ := bnd_some h
          refine v_call hC [] rfl rfl rfl rfl Try.call106 (spec_l01In_ac hq) rfl (by decide) trivial rfl (.inl rfl) rfl ?_
          refine v_op hT hC rfl rfl rfl rfl trivial ?_
          rcases sel_some h with ⟨hb10, h⟩ | ⟨hb10, h⟩
          · iterate 3 refine v_on hT hC rfl rfl rfl rfl hb10 rfl rfl rfl trivial ?_
            refine v_pick hC rfl rfl rfl (b := true) hb10 rfl rfl rfl trivial ?_
            refine v_op hT hC rfl rfl rfl rfl trivial ?_
            rcases sel_some h with ⟨hb11, h⟩ | ⟨hb11, h⟩
            · iterate 3 refine v_on hT hC rfl rfl rfl rfl hb11 rfl rfl rfl trivial ?_
              refine v_pick hC rfl rfl rfl (b := true) hb11 rfl rfl rfl trivial ?_
              refine v_op hT hC rfl rfl rfl rfl trivial ?_
              rcases sel_some h with ⟨hb12, h⟩ | ⟨hb12, h⟩
              · iterate 2 refine v_on hT hC rfl rfl rfl rfl hb12 rfl rfl rfl trivial ?_
                obtain ⟨q8, hq, h⟩ := bnd_some h
                refine v_call_on hC [] rfl rfl rfl rfl hb12 rfl rfl rfl Try.call289 (spec_l09All_ac hq) rfl (by decide) trivial rfl (.inl rfl) rfl ?_
                refine v_pick hC rfl rfl rfl (b := true) hb12 rfl rfl rfl trivial ?_
                refine v_op hT hC rfl rfl rfl rfl trivial ?_
                refine Vc.nil ?_
                injection h with h
                subst h
                refine m_norm ?_
                apply w_conv hC []
                · repeat' first | exact CO.nil | apply CO.gone | apply CO.row rfl rfl | apply CO.box rfl rfl | decide
                · rfl
                · decide
                · rfl
              · refine v_off hC rfl rfl rfl rfl hb12 rfl rfl ?_
                refine v_off hC rfl rfl rfl rfl hb12 rfl rfl ?_
                refine v_off hC rfl rfl rfl rfl hb12 rfl rfl ?_
                refine v_pick hC rfl rfl rfl (b := false) hb12 rfl rfl rfl trivial ?_
                refine v_op hT hC rfl rfl rfl rfl trivial ?_
                refine Vc.nil ?_
                injection h with h
                subst h
                refine m_norm ?_
                apply w_conv hC []
                · repeat' first | exact CO.nil | apply CO.gone | apply CO.row rfl rfl | apply CO.box rfl rfl | decide
                · rfl
                · decide
                · rfl
            · refine v_off hC rfl rfl rfl rfl hb11 rfl rfl ?_
              refine v_off hC rfl rfl rfl rfl hb11 rfl rfl ?_
              refine v_off hC rfl rfl rfl rfl hb11 rfl rfl ?_
              refine v_pick hC rfl rfl rfl (b := false) hb11 rfl rfl rfl trivial ?_
              refine v_op hT hC rfl rfl rfl rfl trivial ?_
              refine v_off hC rfl rfl rfl rfl rfl rfl rfl ?_
              refine v_off hC rfl rfl rfl rfl rfl rfl rfl ?_
              refine v_off hC rfl rfl rfl rfl rfl rfl rfl ?_
              iterate 2 refine v_op hT hC rfl rfl rfl rfl trivial ?_
              refine Vc.nil ?_
              injection h with h
              subst h
              refine m_norm ?_
              apply w_conv hC []
              · repeat' first | exact CO.nil | apply CO.gone | apply CO.row rfl rfl | apply CO.box rfl rfl | decide
              · rfl
              · decide
              · rfl
          · refine v_off hC rfl rfl rfl rfl hb10 rfl rfl ?_
            refine v_off hC rfl rfl rfl rfl hb10 rfl rfl ?_
            refine v_off hC rfl rfl rfl rfl hb10 rfl rfl ?_
            refine v_pick hC rfl rfl rfl (b := false) hb10 rfl rfl rfl trivial ?_
            refine v_op hT hC rfl rfl rfl rfl trivial ?_
            refine v_off hC rfl rfl rfl rfl rfl rfl rfl ?_
            refine v_off hC rfl rfl rfl rfl rfl rfl rfl ?_
            refine v_off hC rfl rfl rfl rfl rfl rfl rfl ?_
            iterate 2 refine v_op hT hC rfl rfl rfl rfl trivial ?_
            refine v_off hC rfl rfl rfl rfl rfl rfl rfl ?_
            refine v_off hC rfl rfl rfl rfl rfl rfl rfl ?_
            refine v_off hC rfl rfl rfl rfl rfl rfl rfl ?_
            iterate 2 refine v_op hT hC rfl rfl rfl rfl trivial ?_
            refine Vc.nil ?_
            injection h with h
            subst h
            refine m_norm ?_
            apply w_conv hC []
            · repeat' first | exact CO.nil | apply CO.gone | apply CO.row rfl rfl | apply CO.box rfl rfl | decide
            · rfl
            · decide
            · rfl
        refine aw_ret ?_
        refine b_ret ?_
        refine t_ret ?_
        injection h with h
        subst h
        exact ends (Weak.refl _) rfl trivial
      · refine s_false rfl hb9 ?_
        refine aw_skip ?_
        refine b_norm ?_
        refine t_norm ?_
        refine s_reg ?_
        refine v_op hT hC rfl rfl rfl rfl trivial ?_
        refine Vc.nil ?_
        refine aw_ret ?_
        injection h with h
        subst h
        exact ends (Weak.refl _) rfl trivial
def spec_l16Ok_res (r : Bool) : AV := .sv (.bool r)
def spec_l16Ok_obs (r : Bool) : Objs := []
theorem spec_l16Ok_ac {p0 : (List Square)} {p1 : Cond} {r : Bool} (h : spec_l16Ok p0 p1 = some r) : AC Try.prog 182 [.sv (cSquare.sv p0), .agg [.sv (.bool p1.Key), .sv (.int .i64 p1.Qp), .sv (.bool p1.Large), .sv (.bool p1.Exact)]] [] (spec_l16Ok_res r) (spec_l16Ok_obs r) := by
  refine ac_of_body hT Try.func182 rfl fun C hC => ?_
  unfold spec_l16Ok at h
  refine s_reg ?_
  iterate 2 refine v_op hT hC rfl rfl rfl rfl trivial ?_
  refine Vc.nil ?_
  refine s_in ?_
  refine live [0, 3] [48] (s' := [_, _]) (o' := [_]) rfl rfl ?_
  obtain ⟨v1, h1, h⟩ := bnd_some h
  refine aw_to ([(14, .sv (.bool v1))], []) ?_ ?_
  · have h := h1
    refine aw_region ?_
    refine v_op hT hC rfl rfl rfl rfl trivial ?_
    obtain ⟨q2, hq, h⟩ := bnd_some h
    refine v_call hC [] rfl rfl rfl rfl Try.call254 (spec_CondOk_ac hq) rfl (by decide) trivial rfl (.inl rfl) rfl ?_
    iterate 2 refine v_op hT hC rfl rfl rfl rfl trivial ?_
    rcases sel_some h with ⟨hb1, h⟩ | ⟨hb1, h⟩
    · iterate 2 refine v_on hT hC rfl rfl rfl rfl (congrArg Bool.not hb1) rfl rfl rfl trivial ?_
      obtain ⟨q3, hq, h⟩ := bnd_some h
      refine v_call_on hC [] rfl rfl rfl rfl (congrArg Bool.not hb1) rfl rfl rfl Try.call106 (spec_l01In_ac hq) rfl (by decide) trivial rfl (.inl rfl) rfl ?_
      refine v_on hT hC rfl rfl rfl rfl (congrArg Bool.not hb1) rfl rfl rfl trivial ?_
      refine v_pick hC rfl rfl rfl (b := false) (congrArg Bool.not hb1) rfl rfl rfl trivial ?_
      refine Vc.nil ?_
      injection h with h
      subst h
      refine m_norm ?_
      apply w_conv hC []
      · repeat' first | exact CO.nil | apply CO.gone | apply CO.row rfl rfl | apply CO.box rfl rfl | decide
      · rfl
      · decide
      · rfl
    · refine v_off hC rfl rfl rfl rfl (congrArg Bool.not hb1) rfl rfl ?_
      refine v_off hC rfl rfl rfl rfl (congrArg Bool.not hb1) rfl rfl ?_
      refine v_off hC rfl rfl rfl rfl (congrArg Bool.not hb1) rfl rfl ?_
      refine v_off hC rfl rfl rfl rfl (congrArg Bool.not hb1) rfl rfl ?_
      refine v_pick hC rfl rfl rfl (b := true) (congrArg Bool.not hb1) rfl rfl rfl trivial ?_
      refine Vc.nil ?_
      injection h with h
      subst h
      refine m_norm ?_
      apply w_conv hC []
      · repeat' first | exact CO.nil | apply CO.gone | apply CO.row rfl rfl | apply CO.box rfl rfl | decide
      · rfl
      · decide
      · rfl
  rcases sel_some h with ⟨hb2, h⟩ | ⟨hb2, h⟩
  · refine s_true rfl hb2 ?_
    refine s_reg ?_
    refine v_op hT hC rfl rfl rfl rfl trivial ?_
    refine Vc.nil ?_
    refine aw_ret ?_
    refine t_ret ?_
    injection h with h
    subst h
    exact ends (Weak.refl _) rfl trivial
  · refine s_false rfl hb2 ?_
    refine aw_skip ?_
    refine t_norm ?_
    refine s_in ?_
    refine s_reg ?_
    refine v_op hT hC rfl rfl rfl rfl trivial ?_
    refine Vc.nil ?_
    refine live [0, 3, 5] [48] (s' := [_, _, _]) (o' := [_]) rfl rfl ?_
    obtain ⟨o14, hl, h⟩ := bnd_some h
    refine s_loopR (fun v7 => ([(5, .sv (.int .i64 v7))], [])) (fun v11 => ([(0, .any), (3, .any), (5, .any)], [(48, none)])) (fun r => EndsA C T Try.f182.results.toList (spec_l16Ok_res r) (spec_l16Ok_obs r)) hl ?_ ?_ ?_ ?_
    · apply w_conv hC []
      · repeat' first | exact CO.nil | apply CO.gone | apply CO.row rfl rfl | apply CO.box rfl rfl | decide
      · rfl
      · decide
      · rfl
    · intro v7 s hs
      have h := hs
      unfold spec_l16Ok_l2 at h
      refine s_in ?_
      refine s_reg ?_
      iterate 4 refine v_op hT hC rfl rfl rfl rfl trivial ?_
      refine Vc.nil ?_
      rcases sel_some h with ⟨hb11, h⟩ | ⟨hb11, h⟩
      · refine s_true rfl hb11 ?_
        refine aw_skip ?_
        refine t_norm ?_
        refine s_in ?_
        refine s_block ?_
        refine live [0, 3, 5] [48] (s' := [_, _, _]) (o' := [_]) rfl rfl ?_
        obtain ⟨v12, h1, h⟩ := bnd_some h
        refine aw_to ([(38, .sv (.bool v12))], []) ?_ ?_
        · have h := h1
          refine aw_region ?_
          iterate 2 refine v_op hT hC rfl rfl rfl rfl trivial ?_
          obtain ⟨hq, h⟩ := req_some h
          refine v_op hT hC rfl rfl rfl rfl hq ?_
          refine v_op hT hC rfl rfl rfl rfl trivial ?_
          obtain ⟨q13, hq, h⟩ := bnd_some h
          refine v_call hC [] rfl rfl rfl rfl Try.call255 (spec_SquareOk_ac hq) rfl (by decide) trivial rfl (.inl rfl) rfl ?_
          iterate 2 refine v_op hT hC rfl rfl rfl rfl trivial ?_
          rcases sel_some h with ⟨hb12, h⟩ | ⟨hb12, h⟩
          · iterate 3 refine v_on hT hC rfl rfl rfl rfl (congrArg Bool.not hb12) rfl rfl rfl trivial ?_
            rcases sel_some h with ⟨hb13, h⟩ | ⟨hb13, h⟩
            · iterate 2 refine v_on hT hC rfl rfl rfl rfl hb13 rfl rfl rfl trivial ?_
              obtain ⟨hq, h⟩ := req_some h
              refine v_on hT hC rfl rfl rfl rfl hb13 rfl rfl rfl hq ?_
              iterate 3 refine v_on hT hC rfl rfl rfl rfl hb13 rfl rfl rfl trivial ?_
              refine v_pick_on hC rfl rfl rfl rfl (congrArg Bool.not hb12) rfl rfl (b := true) hb13 rfl rfl rfl trivial ?_
              refine v_pick hC rfl rfl rfl (b := false) (congrArg Bool.not hb12) rfl rfl rfl trivial ?_
              refine Vc.nil ?_
              injection h with h
              subst h
              refine m_norm ?_
              apply w_conv hC []
              · repeat' first | exact CO.nil | apply CO.gone | apply CO.row rfl rfl | apply CO.box rfl rfl | decide
              · rfl
              · decide
              · rfl
            · refine v_off hC rfl rfl rfl rfl hb13 rfl rfl ?_
              refine v_off hC rfl rfl rfl rfl hb13 rfl rfl ?_
              refine v_off hC rfl rfl rfl rfl hb13 rfl rfl ?_
              refine v_off hC rfl rfl rfl rfl hb13 rfl rfl ?_
              refine v_off hC rfl rfl rfl rfl hb13 rfl rfl ?_
              refine v_off hC rfl rfl rfl rfl hb13 rfl rfl ?_
              refine v_pick_on hC rfl rfl rfl rfl (congrArg Bool.not hb12) rfl rfl (b := false) hb13 rfl rfl rfl trivial ?_
              refine v_pick hC rfl rfl rfl (b := false) (congrArg Bool.not hb12) rfl rfl rfl trivial ?_
              refine Vc.nil ?_
              injection h with h
              subst h
              refine m_norm ?_
              apply w_conv hC []
              · repeat' first | exact CO.nil | apply CO.gone | apply CO.row rfl rfl | apply CO.box rfl rfl | decide
              · rfl
              · decide
              · rfl
          · refine v_off hC rfl rfl rfl rfl (congrArg Bool.not hb12) rfl rfl ?_
            refine v_off hC rfl rfl rfl rfl (congrArg Bool.not hb12) rfl rfl ?_
            refine v_off hC rfl rfl rfl rfl (congrArg Bool.not hb12) rfl rfl ?_
            iterate 6 refine v_dead hC rfl rfl rfl rfl rfl rfl ?_
            refine v_off hC rfl rfl rfl rfl (congrArg Bool.not hb12) rfl rfl ?_
            refine v_pick hC rfl rfl rfl (b := true) (congrArg Bool.not hb12) rfl rfl rfl trivial ?_
            refine Vc.nil ?_
            injection h with h
            subst h
            refine m_norm ?_
            apply w_conv hC []
            · repeat' first | exact CO.nil | apply CO.gone | apply CO.row rfl rfl | apply CO.box rfl rfl | decide
            · rfl
            · decide
            · rfl
        rcases sel_some h with ⟨hb14, h⟩ | ⟨hb14, h⟩
        · refine s_true rfl hb14 ?_
          refine s_reg ?_
          refine v_op hT hC rfl rfl rfl rfl trivial ?_
          refine Vc.nil ?_
          refine aw_ret ?_
          refine b_ret ?_
          refine t_ret ?_
          injection h with h
          subst h
          refine r_ret ?_
          refine o_ret ?_
          exact ends (Weak.refl _) rfl trivial
        · refine s_false rfl hb14 ?_
          refine aw_skip ?_
          refine b_norm ?_
          refine t_norm ?_
          refine aw_region ?_
          iterate 3 refine v_op hT hC rfl rfl rfl rfl trivial ?_
          refine Vc.nil ?_
          injection h with h
          subst h
          refine r_go ?_
          apply w_conv hC []
          · repeat' first | exact CO.nil | apply CO.gone | apply CO.row rfl rfl | apply CO.box rfl rfl | decide
          · rfl
          · decide
          · rfl
      · refine s_false rfl hb11 ?_
        refine aw_exit ?_
        refine t_exit ?_
        injection h with h
        subst h
        refine r_exit ?_
        refine o_both ?_
        apply w_conv hC []
        · repeat' first | exact CO.nil | apply CO.gone | apply CO.row rfl rfl | apply CO.box rfl rfl | decide
        · rfl
        · decide
        · rfl
    · intro v11 e
      subst e
      refine t_norm ?_
      refine s_reg ?_
      refine v_op hT hC rfl rfl rfl rfl trivial ?_
      refine Vc.nil ?_
      refine aw_ret ?_
      injection h with h
      subst h
      exact ends (Weak.refl _) rfl trivial
    · intro r' σ' e hE
      subst e
      injection h with h
      subst h
      refine t_ret ?_
      exact hE
def spec_l01Long_res (r : ByteArray) : AV := .sv (.str r)
def spec_l01Long_obs (r : ByteArray) : Objs := []
theorem spec_l01Long_ac {p0 : Int} {p1 : Int} {r : ByteArray} (h : spec_l01Long p0 p1 = some r) : AC Try.prog 256 [.sv (.int .i64 p0), .sv (.int .u8 p1)] [] (spec_l01Long_res r) (spec_l01Long_obs r) := by
  refine ac_of_body hT Try.func256 rfl fun C hC => ?_
  unfold spec_l01Long at h
  refine s_reg ?_
  refine v_op hT hC rfl rfl rfl rfl trivial ?_
  refine Vc.nil ?_
  refine s_reg ?_
  refine v_op hT hC rfl rfl rfl rfl trivial ?_
  obtain ⟨hq, h⟩ := req_some h
  refine v_op hT hC rfl rfl rfl rfl ⟨hq.1, hq.2.1, hq.2.2, by decide⟩ ?_
  refine v_op hT hC rfl rfl rfl rfl trivial ?_
  refine Vc.nil ?_
  refine s_in ?_
  refine s_reg ?_
  refine v_op hT hC rfl rfl rfl rfl trivial ?_
  refine Vc.nil ?_
  refine live [0, 1, 5, 6] [128] (s' := [_, _, _, _]) (o' := [_]) rfl rfl ?_
  obtain ⟨v4, hl, h⟩ := bnd_some h
  refine s_loop (fun v2 => ([(6, .sv (.int .i64 v2.1))], [(128, some (.ints .u8 v2.2))])) (fun v4 => ([(0, .any), (1, .any), (6, .any)], [(128, some (.ints .u8 v4))])) hl ?_ ?_ ?_
  · try dsimp only
    apply w_conv hC []
    · repeat' first | exact CO.nil | apply CO.gone | apply CO.row rfl rfl | apply CO.box rfl rfl | decide
    · rfl
    · decide
    · rfl
  · intro v2 s hs
    have h := hs
    unfold spec_l01Long_l2 at h
    refine s_in ?_
    refine s_reg ?_
    iterate 3 refine v_op hT hC rfl rfl rfl rfl trivial ?_
    refine Vc.nil ?_
    rcases sel_some h with ⟨hb3, h⟩ | ⟨hb3, h⟩
    · refine s_true rfl hb3 ?_
      refine aw_skip ?_
      refine t_norm ?_
      refine s_in ?_
      refine s_block ?_
      refine aw_region ?_
      iterate 3 refine v_op hT hC rfl rfl rfl rfl trivial ?_
      obtain ⟨hq, h⟩ := req_some h
      refine v_op hT hC rfl rfl rfl rfl hq ?_
      obtain ⟨hq, h⟩ := req_some h
      refine v_op hT hC rfl rfl rfl rfl hq ?_
      refine Vc.nil ?_
      refine b_norm ?_
      refine t_norm ?_
      refine aw_region ?_
      iterate 3 refine v_op hT hC rfl rfl rfl rfl trivial ?_
      refine Vc.nil ?_
      injection h with h
      subst h
      refine r_go ?_
      try dsimp only
      apply w_conv hC []
      · repeat' first | exact CO.nil | apply CO.gone | apply CO.row rfl rfl | apply CO.box rfl rfl | decide
      · rfl
      · decide
      · rfl
    · refine s_false rfl hb3 ?_
      refine aw_exit ?_
      refine t_exit ?_
      injection h with h
      subst h
      refine r_exit ?_
      refine o_out ?_
      apply w_conv hC []
      · repeat' first | exact CO.nil | apply CO.gone | apply CO.row rfl rfl | apply CO.box rfl rfl | decide
      · rfl
      · decide
      · rfl
  refine t_norm ?_
  refine s_reg ?_
  iterate 3 refine v_op hT hC rfl rfl rfl rfl trivial ?_
  refine Vc.nil ?_
  refine aw_ret ?_
  injection h with h
  subst h
  exact ends (Weak.refl _) rfl trivial
def spec_l03Ue_res (r : ByteArray) : AV := .sv (.str r)
def spec_l03Ue_obs (r : ByteArray) : Objs := []
theorem spec_l03Ue_ac {p0 : Int} {r : ByteArray} (h : spec_l03Ue p0 = some r) : AC Try.prog 221 [.sv (.int .i64 p0)] [] (spec_l03Ue_res r) (spec_l03Ue_obs r) := by
  refine ac_of_body hT Try.func221 rfl fun C hC => ?_
  unfold spec_l03Ue at h
  refine s_reg ?_
  refine v_op hT hC rfl rfl rfl rfl trivial ?_
  refine Vc.nil ?_
  refine s_reg ?_
  iterate 3 refine v_op hT hC rfl rfl rfl rfl trivial ?_
  refine Vc.nil ?_
  refine s_reg ?_
  refine v_op hT hC rfl rfl rfl rfl trivial ?_
  refine Vc.nil ?_
  refine s_in ?_
  refine live [3, 4] [] (s' := [_, _]) (o' := []) rfl rfl ?_
  obtain ⟨v4, hl, h⟩ := bnd_some h
  refine s_loop (fun v2 => ([(3, .sv (.int .i64 v2.1)), (4, .sv (.str v2.2))], [])) (fun v4 => ([(4, .sv (.str v4)), (3, .any)], [])) hl ?_ ?_ ?_
  · try dsimp only
    apply w_conv hC []
    · repeat' first | exact CO.nil | apply CO.gone | apply CO.row rfl rfl | apply CO.box rfl rfl | decide
    · rfl
    · decide
    · rfl
  · intro v2 s hs
    have h := hs
    unfold spec_l03Ue_l2 at h
    refine s_in ?_
    refine s_reg ?_
    iterate 2 refine v_op hT hC rfl rfl rfl rfl trivial ?_
    refine Vc.nil ?_
    rcases sel_some h with ⟨hb3, h⟩ | ⟨hb3, h⟩
    · refine s_true rfl hb3 ?_
      refine aw_skip ?_
      refine t_norm ?_
      refine s_block ?_
      refine s_reg ?_
      refine v_op hT hC rfl rfl rfl rfl trivial ?_
      obtain ⟨hq, h⟩ := req_some h
      refine v_op hT hC rfl rfl rfl rfl hq ?_
      iterate 5 refine v_op hT hC rfl rfl rfl rfl trivial ?_
      obtain ⟨hq, h⟩ := req_some h
      refine v_op hT hC rfl rfl rfl rfl hq ?_
      refine v_op hT hC rfl rfl rfl rfl trivial ?_
      refine Vc.nil ?_
      refine aw_region ?_
      refine v_op hT hC rfl rfl rfl rfl trivial ?_
      obtain ⟨hq, h⟩ := req_some h
      refine v_op hT hC rfl rfl rfl rfl hq ?_
      refine v_op hT hC rfl rfl rfl rfl trivial ?_
      refine Vc.nil ?_
      refine b_norm ?_
      injection h with h
      subst h
      refine r_go ?_
      try dsimp only
      apply w_conv hC []
      · repeat' first | exact CO.nil | apply CO.gone | apply CO.row rfl rfl | apply CO.box rfl rfl | decide
      · rfl
      · decide
      · rfl
    · refine s_false rfl hb3 ?_
      refine aw_exit ?_
      refine t_exit ?_
      injection h with h
      subst h
      refine r_exit ?_
      refine o_out ?_
      apply w_conv hC []
      · repeat' first | exact CO.nil | apply CO.gone | apply CO.row rfl rfl | apply CO.box rfl rfl | decide
      · rfl
      · decide
      · rfl
  refine t_norm ?_
  refine s_reg ?_
  iterate 3 refine v_op hT hC rfl rfl rfl rfl trivial ?_
  obtain ⟨q6, hq, h⟩ := bnd_some h
  refine v_call hC [] rfl rfl rfl rfl Try.call256 (spec_l01Long_ac hq) rfl (by decide) trivial rfl (.inl rfl) rfl ?_
  refine v_op hT hC rfl rfl rfl rfl trivial ?_
  obtain ⟨hq, h⟩ := req_some h
  refine v_op hT hC rfl rfl rfl rfl hq ?_
  refine v_op hT hC rfl rfl rfl rfl trivial ?_
  refine Vc.nil ?_
  refine aw_ret ?_
  injection h with h
  subst h
  exact ends (Weak.refl _) rfl trivial
def spec_FoldSe_res (r : (Int × Bool)) : AV := .tup [.sv (.int .i64 r.1), .sv (.bool r.2)]
def spec_FoldSe_obs (r : (Int × Bool)) : Objs := []
theorem spec_FoldSe_ac {p0 : Int} {r : (Int × Bool)} (h : spec_FoldSe p0 = some r) : AC Try.prog 314 [.sv (.int .i64 p0)] [] (spec_FoldSe_res r) (spec_FoldSe_obs r) := by
  refine ac_of_body hT Try.func314 rfl fun C hC => ?_
  unfold spec_FoldSe at h
  refine s_reg ?_
  iterate 2 refine v_op hT hC rfl rfl rfl rfl trivial ?_
  refine Vc.nil ?_
  refine s_in ?_
  refine s_reg ?_
  refine v_op hT hC rfl rfl rfl rfl trivial ?_
  obtain ⟨q1, hq, h⟩ := bnd_some h
  refine v_call hC [] rfl rfl rfl rfl Try.call106 (spec_l01In_ac hq) rfl (by decide) trivial rfl (.inl rfl) rfl ?_
  refine v_op hT hC rfl rfl rfl rfl trivial ?_
  refine Vc.nil ?_
  rcases sel_some h with ⟨hb1, h⟩ | ⟨hb1, h⟩
  · refine s_true rfl hb1 ?_
    refine s_reg ?_
    iterate 2 refine v_op hT hC rfl rfl rfl rfl trivial ?_
    refine Vc.nil ?_
    refine aw_ret ?_
    refine t_ret ?_
    injection h with h
    subst h
    exact ends (Weak.refl _) rfl trivial
  · refine s_false rfl hb1 ?_
    refine aw_skip ?_
    refine t_norm ?_
    refine s_in ?_
    refine s_reg ?_
    iterate 2 refine v_op hT hC rfl rfl rfl rfl trivial ?_
    refine Vc.nil ?_
    rcases sel_some h with ⟨hb2, h⟩ | ⟨hb2, h⟩
    · refine s_true rfl hb2 ?_
      refine s_reg ?_
      iterate 5 refine v_op hT hC rfl rfl rfl rfl trivial ?_
      refine Vc.nil ?_
      refine aw_ret ?_
      refine t_ret ?_
      injection h with h
      subst h
      exact ends (Weak.refl _) rfl trivial
    · refine s_false rfl hb2 ?_
      refine aw_skip ?_
      refine t_norm ?_
      refine s_reg ?_
      iterate 4 refine v_op hT hC rfl rfl rfl rfl trivial ?_
      refine Vc.nil ?_
      refine aw_ret ?_
      injection h with h
      subst h
      exact ends (Weak.refl _) rfl trivial
def spec_l03Se_res (r : ByteArray) : AV := .sv (.str r)
def spec_l03Se_obs (r : ByteArray) : Objs := []
theorem spec_l03Se_ac {p0 : Int} {r : ByteArray} (h : spec_l03Se p0 = some r) : AC Try.prog 300 [.sv (.int .i64 p0)] [] (spec_l03Se_res r) (spec_l03Se_obs r) := by
  refine ac_of_body hT Try.func300 rfl fun C hC => ?_
  unfold spec_l03Se at h
  refine s_reg ?_
  refine v_op hT hC rfl rfl rfl rfl trivial ?_
  refine Vc.nil ?_
  refine s_reg ?_
  refine v_op hT hC rfl rfl rfl rfl trivial ?_
  obtain ⟨q1, hq, h⟩ := bnd_some h
  refine v_call hC [] rfl rfl rfl rfl Try.call314 (spec_FoldSe_ac hq) rfl (by decide) trivial rfl (.inl rfl) rfl ?_
  iterate 5 refine v_op hT hC rfl rfl rfl rfl trivial ?_
  refine Vc.nil ?_
  refine s_reg ?_
  refine v_op hT hC rfl rfl rfl rfl trivial ?_
  obtain ⟨q2, hq, h⟩ := bnd_some h
  refine v_call hC [] rfl rfl rfl rfl Try.call221 (spec_l03Ue_ac hq) rfl (by decide) trivial rfl (.inl rfl) rfl ?_
  refine v_op hT hC rfl rfl rfl rfl trivial ?_
  refine Vc.nil ?_
  refine aw_ret ?_
  injection h with h
  subst h
  exact ends (Weak.refl _) rfl trivial
def spec_l11Runs_res (r : ByteArray) : AV := .sv (.str r)
def spec_l11Runs_obs (r : ByteArray) : Objs := []
theorem spec_l11Runs_ac {p0 : (List Int)} {r : ByteArray} (h : spec_l11Runs p0 = some r) : AC Try.prog 315 [.sv (.ints .i64 p0)] [] (spec_l11Runs_res r) (spec_l11Runs_obs r) := by
  refine ac_of_body hT Try.func315 rfl fun C hC => ?_
  unfold spec_l11Runs at h
  refine s_reg ?_
  refine v_op hT hC rfl rfl rfl rfl trivial ?_
  refine Vc.nil ?_
  refine s_reg ?_
  refine v_op hT hC rfl rfl rfl rfl trivial ?_
  refine Vc.nil ?_
  refine s_reg ?_
  refine v_op hT hC rfl rfl rfl rfl trivial ?_
  refine Vc.nil ?_
  refine s_reg ?_
  refine v_op hT hC rfl rfl rfl rfl trivial ?_
  refine Vc.nil ?_
  refine s_in ?_
  refine s_reg ?_
  refine v_op hT hC rfl rfl rfl rfl trivial ?_
  refine Vc.nil ?_
  refine live [0, 3, 4, 5, 6] [] (s' := [_, _, _, _, _]) (o' := []) rfl rfl ?_
  obtain ⟨v10, hl, h⟩ := bnd_some h
  refine s_loop (fun v5 => ([(3, .sv (.int .i64 v5.1)), (4, .sv (.int .i64 v5.2.1)), (5, .sv (.str v5.2.2.1)), (6, .sv (.int .i64 v5.2.2.2))], [])) (fun v10 => ([(3, .sv (.int .i64 v10.1)), (5, .sv (.str v10.2)), (0, .any), (4, .any), (6, .any)], [])) hl ?_ ?_ ?_
  · try dsimp only
    apply w_conv hC []
    · repeat' first | exact CO.nil | apply CO.gone | apply CO.row rfl rfl | apply CO.box rfl rfl | decide
    · rfl
    · decide
    · rfl
  · intro v5 s hs
    have h := hs
    unfold spec_l11Runs_l2 at h
    refine s_in ?_
    refine s_reg ?_
    iterate 4 refine v_op hT hC rfl rfl rfl rfl trivial ?_
    refine Vc.nil ?_
    rcases sel_some h with ⟨hb5, h⟩ | ⟨hb5, h⟩
    · refine s_true rfl hb5 ?_
      refine aw_skip ?_
      refine t_norm ?_
      refine live [0, 3, 4, 5, 6] [] (s' := [_, _, _, _, _]) (o' := []) rfl rfl ?_
      obtain ⟨v11, h1, h⟩ := bnd_some h
      refine aw_to ([(3, .sv (.int .i64 v11.1)), (4, .sv (.int .i64 v11.2.1)), (5, .sv (.str v11.2.2))], []) ?_ ?_
      · have h := h1
        refine s_block ?_
        refine s_in ?_
        refine s_reg ?_
        iterate 2 refine v_op hT hC rfl rfl rfl rfl trivial ?_
        obtain ⟨hq, h⟩ := req_some h
        refine v_op hT hC rfl rfl rfl rfl hq ?_
        iterate 2 refine v_op hT hC rfl rfl rfl rfl trivial ?_
        refine Vc.nil ?_
        rcases sel_some h with ⟨hb6, h⟩ | ⟨hb6, h⟩
        · refine s_true rfl hb6 ?_
          refine s_reg ?_
          iterate 3 refine v_op hT hC rfl rfl rfl rfl trivial ?_
          refine Vc.nil ?_
          refine aw_exit ?_
          refine t_exit ?_
          refine b_exit ?_
          injection h with h
          subst h
          refine m_norm ?_
          try dsimp only
          apply w_conv hC []
          · repeat' first | exact CO.nil | apply CO.gone | apply CO.row rfl rfl | apply CO.box rfl rfl | decide
          · rfl
          · decide
          · rfl
        · refine s_false rfl hb6 ?_
          refine aw_skip ?_
          refine t_norm ?_
          refine s_reg ?_
          iterate 3 refine v_op hT hC rfl rfl rfl rfl trivial ?_
          refine Vc.nil ?_
          refine s_draw hm ?_
          iterate 2 refine v_op hT hC rfl rfl rfl rfl trivial ?_
          obtain ⟨q12, hq, h⟩ := bnd_some h
          refine v_call hC [] rfl rfl rfl rfl Try.call221 (spec_l03Ue_ac hq) rfl (by decide) trivial rfl (.inl rfl) rfl ?_
          obtain ⟨hq, h⟩ := req_some h
          refine v_op hT hC rfl rfl rfl rfl hq ?_
          iterate 2 refine v_op hT hC rfl rfl rfl rfl trivial ?_
          obtain ⟨hq, h⟩ := req_some h
          refine v_op hT hC rfl rfl rfl rfl hq ?_
          refine v_op hT hC rfl rfl rfl rfl trivial ?_
          obtain ⟨q13, hq, h⟩ := bnd_some h
          refine v_call hC [] rfl rfl rfl rfl Try.call300 (spec_l03Se_ac hq) rfl (by decide) trivial rfl (.inl rfl) rfl ?_
          obtain ⟨hq, h⟩ := req_some h
          refine v_op hT hC rfl rfl rfl rfl hq ?_
          refine v_op hT hC rfl rfl rfl rfl trivial ?_
          refine Vc.nil ⟨by kernel_rfl, ?_⟩
          refine aw_region ?_
          refine v_op hT hC rfl rfl rfl rfl trivial ?_
          refine Vc.nil ?_
          refine b_norm ?_
          injection h with h
          subst h
          refine m_norm ?_
          try dsimp only
          apply w_conv hC []
          · repeat' first | exact CO.nil | apply CO.gone | apply CO.row rfl rfl | apply CO.box rfl rfl | decide
          · rfl
          · decide
          · rfl
      refine aw_region ?_
      iterate 3 refine v_op hT hC rfl rfl rfl rfl trivial ?_
      refine Vc.nil ?_
      injection h with h
      subst h
      refine r_go ?_
      try dsimp only
      apply w_conv hC []
      · repeat' first | exact CO.nil | apply CO.gone | apply CO.row rfl rfl | apply CO.box rfl rfl | decide
      · rfl
      · decide
      · rfl
    · refine s_false rfl hb5 ?_
      refine aw_exit ?_
      refine t_exit ?_
      injection h with h
      subst h
      refine r_exit ?_
      refine o_out ?_
      try dsimp only
      apply w_conv hC []
      · repeat' first | exact CO.nil | apply CO.gone | apply CO.row rfl rfl | apply CO.box rfl rfl | decide
      · rfl
      · decide
      · rfl
  refine t_norm ?_
  refine s_reg ?_
  refine v_op hT hC rfl rfl rfl rfl trivial ?_
  obtain ⟨q15, hq, h⟩ := bnd_some h
  refine v_call hC [] rfl rfl rfl rfl Try.call221 (spec_l03Ue_ac hq) rfl (by decide) trivial rfl (.inl rfl) rfl ?_
  refine v_op hT hC rfl rfl rfl rfl trivial ?_
  obtain ⟨hq, h⟩ := req_some h
  refine v_op hT hC rfl rfl rfl rfl hq ?_
  refine v_op hT hC rfl rfl rfl rfl trivial ?_
  refine Vc.nil ?_
  refine aw_ret ?_
  injection h with h
  subst h
  exact ends (Weak.refl _) rfl trivial
def spec_l14Row_res (r : ByteArray) : AV := .sv (.str r)
def spec_l14Row_obs (r : ByteArray) : Objs := []
theorem spec_l14Row_ac {p0 : (List Int)} {p1 : Cond} {r : ByteArray} (h : spec_l14Row p0 p1 = some r) : AC Try.prog 301 [.sv (.ints .i64 p0), .agg [.sv (.bool p1.Key), .sv (.int .i64 p1.Qp), .sv (.bool p1.Large), .sv (.bool p1.Exact)]] [] (spec_l14Row_res r) (spec_l14Row_obs r) := by
  refine ac_of_body hT Try.func301 rfl fun C hC => ?_
  unfold spec_l14Row at h
  refine s_reg ?_
  iterate 2 refine v_op hT hC rfl rfl rfl rfl trivial ?_
  refine Vc.nil ?_
  refine s_in ?_
  refine live [0, 3] [48] (s' := [_, _]) (o' := [_]) rfl rfl ?_
  obtain ⟨v1, h1, h⟩ := bnd_some h
  refine aw_to ([(10, .sv (.bool v1)), (3, .any)], [(48, none)]) ?_ ?_
  · have h := h1
    refine aw_region ?_
    iterate 3 refine v_op hT hC rfl rfl rfl rfl trivial ?_
    rcases sel_some h with ⟨hb1, h⟩ | ⟨hb1, h⟩
    · refine v_off hC rfl rfl rfl rfl hb1 rfl rfl ?_
      refine v_off hC rfl rfl rfl rfl hb1 rfl rfl ?_
      refine v_pick hC rfl rfl rfl (b := true) hb1 rfl rfl rfl trivial ?_
      refine Vc.nil ?_
      injection h with h
      subst h
      refine m_norm ?_
      apply w_conv hC []
      · repeat' first | exact CO.nil | apply CO.gone | apply CO.row rfl rfl | apply CO.box rfl rfl | decide
      · rfl
      · decide
      · rfl
    · iterate 2 refine v_on hT hC rfl rfl rfl rfl hb1 rfl rfl rfl trivial ?_
      refine v_pick hC rfl rfl rfl (b := false) hb1 rfl rfl rfl trivial ?_
      refine Vc.nil ?_
      injection h with h
      subst h
      refine m_norm ?_
      apply w_conv hC []
      · repeat' first | exact CO.nil | apply CO.gone | apply CO.row rfl rfl | apply CO.box rfl rfl | decide
      · rfl
      · decide
      · rfl
  rcases sel_some h with ⟨hb2, h⟩ | ⟨hb2, h⟩
  · refine s_true rfl hb2 ?_
    refine s_reg ?_
    refine v_op hT hC rfl rfl rfl rfl trivial ?_
    obtain ⟨q2, hq, h⟩ := bnd_some h
    refine v_call hC [] rfl rfl rfl rfl Try.call315 (spec_l11Runs_ac hq) rfl (by decide) trivial rfl (.inl rfl) rfl ?_
    refine v_op hT hC rfl rfl rfl rfl trivial ?_
    refine Vc.nil ?_
    refine aw_ret ?_
    refine t_ret ?_
    injection h with h
    subst h
    exact ends (Weak.refl _) rfl trivial
  · refine s_false rfl hb2 ?_
    refine aw_skip ?_
    refine t_norm ?_
    refine s_draw hm ?_
    refine v_op hT hC rfl rfl rfl rfl trivial ?_
    obtain ⟨hq, h⟩ := req_some h
    refine v_op hT hC rfl rfl rfl rfl hq ?_
    obtain ⟨q3, hq, h⟩ := bnd_some h
    refine v_call hC [] rfl rfl rfl rfl Try.call315 (spec_l11Runs_ac hq) rfl (by decide) trivial rfl (.inl rfl) rfl ?_
    refine v_op hT hC rfl rfl rfl rfl trivial ?_
    obtain ⟨hq, h⟩ := req_some h
    refine v_op hT hC rfl rfl rfl rfl hq ?_
    obtain ⟨q4, hq, h⟩ := bnd_some h
    refine v_call hC [] rfl rfl rfl rfl Try.call315 (spec_l11Runs_ac hq) rfl (by decide) trivial rfl (.inl rfl) rfl ?_
    obtain ⟨hq, h⟩ := req_some h
    refine v_op hT hC rfl rfl rfl rfl hq ?_
    refine v_op hT hC rfl rfl rfl rfl trivial ?_
    obtain ⟨hq, h⟩ := req_some h
    refine v_op hT hC rfl rfl rfl rfl hq ?_
    obtain ⟨q5, hq, h⟩ := bnd_some h
    refine v_call hC [] rfl rfl rfl rfl Try.call315 (spec_l11Runs_ac hq) rfl (by decide) trivial rfl (.inl rfl) rfl ?_
    obtain ⟨hq, h⟩ := req_some h
    refine v_op hT hC rfl rfl rfl rfl hq ?_
    refine v_op hT hC rfl rfl rfl rfl trivial ?_
    obtain ⟨hq, h⟩ := req_some h
    refine v_op hT hC rfl rfl rfl rfl hq ?_
    obtain ⟨q6, hq, h⟩ := bnd_some h
    refine v_call hC [] rfl rfl rfl rfl Try.call315 (spec_l11Runs_ac hq) rfl (by decide) trivial rfl (.inl rfl) rfl ?_
    obtain ⟨hq, h⟩ := req_some h
    refine v_op hT hC rfl rfl rfl rfl hq ?_
    refine v_op hT hC rfl rfl rfl rfl trivial ?_
    refine Vc.nil ⟨by kernel_rfl, ?_⟩
    refine aw_ret ?_
    injection h with h
    subst h
    exact ends (Weak.refl _) rfl trivial
def spec_l15Row_res (r : ByteArray) : AV := .sv (.str r)
def spec_l15Row_obs (r : ByteArray) : Objs := []
theorem spec_l15Row_ac {p0 : Square} {p1 : Cond} {r : ByteArray} (h : spec_l15Row p0 p1 = some r) : AC Try.prog 271 [.agg [.sv (.int .i64 p0.Kind), .sv (.int .i64 p0.Mode), .sv (.int .i64 p0.Dx), .sv (.int .i64 p0.Dy), .sv (.ints .i64 p0.Levels)], .agg [.sv (.bool p1.Key), .sv (.int .i64 p1.Qp), .sv (.bool p1.Large), .sv (.bool p1.Exact)]] [] (spec_l15Row_res r) (spec_l15Row_obs r) := by
  refine ac_of_body hT Try.func271 rfl fun C hC => ?_
  unfold spec_l15Row at h
  refine s_reg ?_
  iterate 3 refine v_op hT hC rfl rfl rfl rfl trivial ?_
  refine Vc.nil ?_
  refine s_reg ?_
  refine v_op hT hC rfl rfl rfl rfl trivial ?_
  refine Vc.nil ?_
  refine live [2, 3, 5] [32, 48] (s' := [_, _, _]) (o' := [_, _]) rfl rfl ?_
  obtain ⟨v1, h1, h⟩ := bnd_some h
  refine aw_to ([(5, .sv (.str v1))], []) ?_ ?_
  · have h := h1
    refine s_reg ?_
    iterate 3 refine v_op hT hC rfl rfl rfl rfl trivial ?_
    refine Vc.nil ?_
    rcases sel_some h with ⟨hb1, h⟩ | ⟨hb1, h⟩
    · refine s_true rfl hb1 ?_
      refine aw_region ?_
      iterate 2 refine v_op hT hC rfl rfl rfl rfl trivial ?_
      obtain ⟨q2, hq, h⟩ := bnd_some h
      refine v_call hC [] rfl rfl rfl rfl Try.call221 (spec_l03Ue_ac hq) rfl (by decide) trivial rfl (.inl rfl) rfl ?_
      refine v_op hT hC rfl rfl rfl rfl trivial ?_
      refine Vc.nil ?_
      injection h with h
      subst h
      refine m_norm ?_
      apply w_conv hC []
      · repeat' first | exact CO.nil | apply CO.gone | apply CO.row rfl rfl | apply CO.box rfl rfl | decide
      · rfl
      · decide
      · rfl
    · refine s_false rfl hb1 ?_
      refine aw_skip ?_
      injection h with h
      subst h
      refine m_norm ?_
      apply w_conv hC []
      · repeat' first | exact CO.nil | apply CO.gone | apply CO.row rfl rfl | apply CO.box rfl rfl | decide
      · rfl
      · decide
      · rfl
  refine s_in ?_
  refine s_reg ?_
  iterate 2 refine v_op hT hC rfl rfl rfl rfl trivial ?_
  refine Vc.nil ?_
  refine s_block ?_
  refine s_reg ?_
  iterate 2 refine v_op hT hC rfl rfl rfl rfl trivial ?_
  refine Vc.nil ?_
  rcases sel_some h with ⟨hb2, h⟩ | ⟨hb2, h⟩
  · refine s_true rfl hb2 ?_
    refine s_draw hm ?_
    iterate 3 refine v_op hT hC rfl rfl rfl rfl trivial ?_
    obtain ⟨q3, hq, h⟩ := bnd_some h
    refine v_call hC [] rfl rfl rfl rfl Try.call300 (spec_l03Se_ac hq) rfl (by decide) trivial rfl (.inl rfl) rfl ?_
    obtain ⟨hq, h⟩ := req_some h
    refine v_op hT hC rfl rfl rfl rfl hq ?_
    iterate 2 refine v_op hT hC rfl rfl rfl rfl trivial ?_
    obtain ⟨q4, hq, h⟩ := bnd_some h
    refine v_call hC [] rfl rfl rfl rfl Try.call300 (spec_l03Se_ac hq) rfl (by decide) trivial rfl (.inl rfl) rfl ?_
    obtain ⟨hq, h⟩ := req_some h
    refine v_op hT hC rfl rfl rfl rfl hq ?_
    iterate 3 refine v_op hT hC rfl rfl rfl rfl trivial ?_
    obtain ⟨q5, hq, h⟩ := bnd_some h
    refine v_call hC [] rfl rfl rfl rfl Try.call301 (spec_l14Row_ac hq) rfl (by decide) trivial rfl (.inl rfl) rfl ?_
    obtain ⟨hq, h⟩ := req_some h
    refine v_op hT hC rfl rfl rfl rfl hq ?_
    refine v_op hT hC rfl rfl rfl rfl trivial ?_
    refine Vc.nil ⟨by kernel_rfl, ?_⟩
    refine aw_ret ?_
    refine b_ret ?_
    refine t_ret ?_
    injection h with h
    subst h
    exact ends (Weak.refl _) rfl trivial
  · refine s_false rfl hb2 ?_
    refine s_reg ?_
    iterate 2 refine v_op hT hC rfl rfl rfl rfl trivial ?_
    refine Vc.nil ?_
    rcases sel_some h with ⟨hb3, h⟩ | ⟨hb3, h⟩
    · refine s_true rfl hb3 ?_
      refine s_draw hm ?_
      iterate 3 refine v_op hT hC rfl rfl rfl rfl trivial ?_
      obtain ⟨q6, hq, h⟩ := bnd_some h
      refine v_call hC [] rfl rfl rfl rfl Try.call221 (spec_l03Ue_ac hq) rfl (by decide) trivial rfl (.inl rfl) rfl ?_
      obtain ⟨hq, h⟩ := req_some h
      refine v_op hT hC rfl rfl rfl rfl hq ?_
      iterate 3 refine v_op hT hC rfl rfl rfl rfl trivial ?_
      obtain ⟨q7, hq, h⟩ := bnd_some h
      refine v_call hC [] rfl rfl rfl rfl Try.call301 (spec_l14Row_ac hq) rfl (by decide) trivial rfl (.inl rfl) rfl ?_
      obtain ⟨hq, h⟩ := req_some h
      refine v_op hT hC rfl rfl rfl rfl hq ?_
      refine v_op hT hC rfl rfl rfl rfl trivial ?_
      refine Vc.nil ⟨by kernel_rfl, ?_⟩
      refine aw_ret ?_
      refine b_ret ?_
      refine t_ret ?_
      injection h with h
      subst h
      exact ends (Weak.refl _) rfl trivial
    · refine s_false rfl hb3 ?_
      refine aw_skip ?_
      refine b_norm ?_
      refine t_norm ?_
      refine s_reg ?_
      iterate 2 refine v_op hT hC rfl rfl rfl rfl trivial ?_
      refine Vc.nil ?_
      refine aw_ret ?_
      injection h with h
      subst h
      exact ends (Weak.refl _) rfl trivial
def spec_l16Row_res (r : ByteArray) : AV := .sv (.str r)
def spec_l16Row_obs (r : ByteArray) : Objs := []
theorem spec_l16Row_ac {p0 : (List Square)} {p1 : Cond} {r : ByteArray} (h : spec_l16Row p0 p1 = some r) : AC Try.prog 212 [.sv (cSquare.sv p0), .agg [.sv (.bool p1.Key), .sv (.int .i64 p1.Qp), .sv (.bool p1.Large), .sv (.bool p1.Exact)]] [] (spec_l16Row_res r) (spec_l16Row_obs r) := by
  refine ac_of_body hT Try.func212 rfl fun C hC => ?_
  unfold spec_l16Row at h
  refine s_reg ?_
  iterate 2 refine v_op hT hC rfl rfl rfl rfl trivial ?_
  refine Vc.nil ?_
  refine s_reg ?_
  iterate 2 refine v_op hT hC rfl rfl rfl rfl trivial ?_
  refine Vc.nil ?_
  refine s_in ?_
  refine s_reg ?_
  refine v_op hT hC rfl rfl rfl rfl trivial ?_
  refine Vc.nil ?_
  refine live [0, 3, 5, 6] [48, 112] (s' := [_, _, _, _]) (o' := [_, _]) rfl rfl ?_
  obtain ⟨v6, hl, h⟩ := bnd_some h
  refine s_loop (fun v3 => ([(6, .sv (.int .i64 v3.1))], [(112, some (.ints .u8 v3.2))])) (fun v6 => ([(0, .any), (3, .any), (6, .any)], [(112, some (.ints .u8 v6)), (48, none)])) hl ?_ ?_ ?_
  · try dsimp only
    apply w_conv hC []
    · repeat' first | exact CO.nil | apply CO.gone | apply CO.row rfl rfl | apply CO.box rfl rfl | decide
    · rfl
    · decide
    · rfl
  · intro v3 s hs
    have h := hs
    unfold spec_l16Row_l2 at h
    refine s_in ?_
    refine s_reg ?_
    iterate 4 refine v_op hT hC rfl rfl rfl rfl trivial ?_
    refine Vc.nil ?_
    rcases sel_some h with ⟨hb3, h⟩ | ⟨hb3, h⟩
    · refine s_true rfl hb3 ?_
      refine aw_skip ?_
      refine t_norm ?_
      refine s_in ?_
      refine s_block ?_
      refine aw_draw hm ?_
      iterate 3 refine v_op hT hC rfl rfl rfl rfl trivial ?_
      obtain ⟨hq, h⟩ := req_some h
      refine v_op hT hC rfl rfl rfl rfl hq ?_
      iterate 2 refine v_op hT hC rfl rfl rfl rfl trivial ?_
      obtain ⟨q7, hq, h⟩ := bnd_some h
      refine v_call hC [] rfl rfl rfl rfl Try.call271 (spec_l15Row_ac hq) rfl (by decide) trivial rfl (.inl rfl) rfl ?_
      obtain ⟨hq, h⟩ := req_some h
      refine v_op hT hC rfl rfl rfl rfl ⟨trivial, hq⟩ ?_
      refine v_op hT hC rfl rfl rfl rfl trivial ?_
      refine Vc.nil ⟨by kernel_rfl, ?_⟩
      refine b_norm ?_
      refine t_norm ?_
      refine aw_region ?_
      iterate 3 refine v_op hT hC rfl rfl rfl rfl trivial ?_
      refine Vc.nil ?_
      injection h with h
      subst h
      refine r_go ?_
      try dsimp only
      apply w_conv hC [(112, 336)]
      · repeat' first | exact CO.nil | apply CO.gone | apply CO.row rfl rfl | apply CO.box rfl rfl | decide
      · rfl
      · decide
      · rfl
    · refine s_false rfl hb3 ?_
      refine aw_exit ?_
      refine t_exit ?_
      injection h with h
      subst h
      refine r_exit ?_
      refine o_out ?_
      apply w_conv hC []
      · repeat' first | exact CO.nil | apply CO.gone | apply CO.row rfl rfl | apply CO.box rfl rfl | decide
      · rfl
      · decide
      · rfl
  refine t_norm ?_
  refine s_reg ?_
  iterate 3 refine v_op hT hC rfl rfl rfl rfl trivial ?_
  refine Vc.nil ?_
  refine aw_ret ?_
  injection h with h
  subst h
  exact ends (Weak.refl _) rfl trivial
def spec_TileRow_res (r : (ByteArray × Bool)) : AV := .tup [.sv (.str r.1), .sv (.bool r.2)]
def spec_TileRow_obs (r : (ByteArray × Bool)) : Objs := []
theorem spec_TileRow_ac {p0 : (List Square)} {p1 : Cond} {r : (ByteArray × Bool)} (h : spec_TileRow p0 p1 = some r) : AC Try.prog 133 [.sv (cSquare.sv p0), .agg [.sv (.bool p1.Key), .sv (.int .i64 p1.Qp), .sv (.bool p1.Large), .sv (.bool p1.Exact)]] [] (spec_TileRow_res r) (spec_TileRow_obs r) := by
  refine ac_of_body hT Try.func133 rfl fun C hC => ?_
  unfold spec_TileRow at h
  refine s_reg ?_
  iterate 3 refine v_op hT hC rfl rfl rfl rfl trivial ?_
  refine Vc.nil ?_
  refine s_in ?_
  refine s_reg ?_
  iterate 2 refine v_op hT hC rfl rfl rfl rfl trivial ?_
  obtain ⟨q1, hq, h⟩ := bnd_some h
  refine v_call hC [] rfl rfl rfl rfl Try.call182 (spec_l16Ok_ac hq) rfl (by decide) trivial rfl (.inl rfl) rfl ?_
  refine v_op hT hC rfl rfl rfl rfl trivial ?_
  refine Vc.nil ?_
  rcases sel_some h with ⟨hb1, h⟩ | ⟨hb1, h⟩
  · refine s_true rfl hb1 ?_
    refine s_reg ?_
    iterate 2 refine v_op hT hC rfl rfl rfl rfl trivial ?_
    refine Vc.nil ?_
    refine aw_ret ?_
    refine t_ret ?_
    injection h with h
    subst h
    exact ends (Weak.refl _) rfl trivial
  · refine s_false rfl hb1 ?_
    refine aw_skip ?_
    refine t_norm ?_
    refine s_reg ?_
    iterate 2 refine v_op hT hC rfl rfl rfl rfl trivial ?_
    obtain ⟨q2, hq, h⟩ := bnd_some h
    refine v_call hC [] rfl rfl rfl rfl Try.call212 (spec_l16Row_ac hq) rfl (by decide) trivial rfl (.inl rfl) rfl ?_
    iterate 2 refine v_op hT hC rfl rfl rfl rfl trivial ?_
    refine Vc.nil ?_
    refine aw_ret ?_
    injection h with h
    subst h
    exact ends (Weak.refl _) rfl trivial
def spec_SentSize_res (r : Int) : AV := .sv (.int .i64 r)
def spec_SentSize_obs (r : Int) : Objs := []
theorem spec_SentSize_ac {p0 : (List Square)} {p1 : Cond} {r : Int} (h : spec_SentSize p0 p1 = some r) : AC Try.prog 48 [.sv (cSquare.sv p0), .agg [.sv (.bool p1.Key), .sv (.int .i64 p1.Qp), .sv (.bool p1.Large), .sv (.bool p1.Exact)]] [] (spec_SentSize_res r) (spec_SentSize_obs r) := by
  refine ac_of_body hT Try.func48 rfl fun C hC => ?_
  unfold spec_SentSize at h
  refine s_reg ?_
  iterate 2 refine v_op hT hC rfl rfl rfl rfl trivial ?_
  refine Vc.nil ?_
  refine s_reg ?_
  iterate 2 refine v_op hT hC rfl rfl rfl rfl trivial ?_
  obtain ⟨q1, hq, h⟩ := bnd_some h
  refine v_call hC [] rfl rfl rfl rfl Try.call133 (spec_TileRow_ac hq) rfl (by decide) trivial rfl (.inl rfl) rfl ?_
  iterate 5 refine v_op hT hC rfl rfl rfl rfl trivial ?_
  refine Vc.nil ?_
  refine s_reg ?_
  iterate 3 refine v_op hT hC rfl rfl rfl rfl trivial ?_
  refine Vc.nil ?_
  refine aw_ret ?_
  injection h with h
  subst h
  exact ends (Weak.refl _) rfl trivial
def impl_areLevels_res (r : Bool) : AV := .sv (.bool r)
def impl_areLevels_obs (r : Bool) : Objs := []
theorem impl_areLevels_ac {p0 : (List Int)} {r : Bool} (h : impl_areLevels p0 = some r) : AC Try.prog 168 [.sv (.ints .i64 p0)] [] (impl_areLevels_res r) (impl_areLevels_obs r) := by
  refine ac_of_body hT Try.func168 rfl fun C hC => ?_
  unfold impl_areLevels at h
  refine s_reg ?_
  refine v_op hT hC rfl rfl rfl rfl trivial ?_
  refine Vc.nil ?_
  refine s_reg ?_
  refine v_op hT hC rfl rfl rfl rfl trivial ?_
  obtain ⟨q1, hq, h⟩ := bnd_some h
  refine v_call hC [] rfl rfl rfl rfl Try.call109 (impl_areIn_ac hq) rfl (by decide) trivial rfl (.inl rfl) rfl ?_
  refine v_op hT hC rfl rfl rfl rfl trivial ?_
  refine Vc.nil ?_
  refine aw_ret ?_
  injection h with h
  subst h
  exact ends (Weak.refl _) rfl trivial
def impl_SquareOk_res (r : Bool) : AV := .sv (.bool r)
def impl_SquareOk_obs (r : Bool) : Objs := []
theorem impl_SquareOk_ac {p0 : Square} {r : Bool} (h : impl_SquareOk p0 = some r) : AC Try.prog 76 [.agg [.sv (.int .i64 p0.Kind), .sv (.int .i64 p0.Mode), .sv (.int .i64 p0.Dx), .sv (.int .i64 p0.Dy), .sv (.ints .i64 p0.Levels)]] [] (impl_SquareOk_res r) (impl_SquareOk_obs r) := by
  refine ac_of_body hT Try.func76 rfl fun C hC => ?_
  unfold impl_SquareOk at h
  refine s_reg ?_
  iterate 2 refine v_op hT hC rfl rfl rfl rfl trivial ?_
  refine Vc.nil ?_
  refine s_in ?_
  refine s_reg ?_
  iterate 2 refine v_op hT hC rfl rfl rfl rfl trivial ?_
  refine Vc.nil ?_
  refine s_block ?_
  refine s_reg ?_
  iterate 2 refine v_op hT hC rfl rfl rfl rfl trivial ?_
  refine Vc.nil ?_
  rcases sel_some h with ⟨hb1, h⟩ | ⟨hb1, h⟩
  · refine s_true rfl hb1 ?_
    refine live [1, 2] [16] (s' := [_, _]) (o' := [_]) rfl rfl ?_
    obtain ⟨v1, h1, h⟩ := bnd_some h
    refine aw_to ([(2, .sv (.bool v1)), (1, .any)], [(16, none)]) ?_ ?_
    · have h := h1
      refine aw_region ?_
      iterate 4 refine v_op hT hC rfl rfl rfl rfl trivial ?_
      rcases sel_some h with ⟨hb2, h⟩ | ⟨hb2, h⟩
      · iterate 3 refine v_on hT hC rfl rfl rfl rfl hb2 rfl rfl rfl trivial ?_
        refine v_pick hC rfl rfl rfl (b := true) hb2 rfl rfl rfl trivial ?_
        refine v_op hT hC rfl rfl rfl rfl trivial ?_
        rcases sel_some h with ⟨hb3, h⟩ | ⟨hb3, h⟩
        · iterate 3 refine v_on hT hC rfl rfl rfl rfl hb3 rfl rfl rfl trivial ?_
          refine v_pick hC rfl rfl rfl (b := true) hb3 rfl rfl rfl trivial ?_
          refine v_op hT hC rfl rfl rfl rfl trivial ?_
          rcases sel_some h with ⟨hb4, h⟩ | ⟨hb4, h⟩
          · iterate 4 refine v_on hT hC rfl rfl rfl rfl hb4 rfl rfl rfl trivial ?_
            refine v_pick hC rfl rfl rfl (b := true) hb4 rfl rfl rfl trivial ?_
            refine v_op hT hC rfl rfl rfl rfl trivial ?_
            refine Vc.nil ?_
            injection h with h
            subst h
            refine m_norm ?_
            apply w_conv hC []
            · repeat' first | exact CO.nil | apply CO.gone | apply CO.row rfl rfl | apply CO.box rfl rfl | decide
            · rfl
            · decide
            · rfl
          · refine v_off hC rfl rfl rfl rfl hb4 rfl rfl ?_
            refine v_off hC rfl rfl rfl rfl hb4 rfl rfl ?_
            refine v_off hC rfl rfl rfl rfl hb4 rfl rfl ?_
            refine v_off hC rfl rfl rfl rfl hb4 rfl rfl ?_
            refine v_pick hC rfl rfl rfl (b := false) hb4 rfl rfl rfl trivial ?_
            refine v_op hT hC rfl rfl rfl rfl trivial ?_
            refine Vc.nil ?_
            injection h with h
            subst h
            refine m_norm ?_
            apply w_conv hC []
            · repeat' first | exact CO.nil | apply CO.gone | apply CO.row rfl rfl | apply CO.box rfl rfl | decide
            · rfl
            · decide
            · rfl
        · refine v_off hC rfl rfl rfl rfl hb3 rfl rfl ?_
          refine v_off hC rfl rfl rfl rfl hb3 rfl rfl ?_
          refine v_off hC rfl rfl rfl rfl hb3 rfl rfl ?_
          refine v_pick hC rfl rfl rfl (b := false) hb3 rfl rfl rfl trivial ?_
          refine v_op hT hC rfl rfl rfl rfl trivial ?_
          refine v_off hC rfl rfl rfl rfl rfl rfl rfl ?_
          refine v_off hC rfl rfl rfl rfl rfl rfl rfl ?_
          refine v_off hC rfl rfl rfl rfl rfl rfl rfl ?_
          refine v_off hC rfl rfl rfl rfl rfl rfl rfl ?_
          iterate 2 refine v_op hT hC rfl rfl rfl rfl trivial ?_
          refine Vc.nil ?_
          injection h with h
          subst h
          refine m_norm ?_
          apply w_conv hC []
          · repeat' first | exact CO.nil | apply CO.gone | apply CO.row rfl rfl | apply CO.box rfl rfl | decide
          · rfl
          · decide
          · rfl
      · refine v_off hC rfl rfl rfl rfl hb2 rfl rfl ?_
        refine v_off hC rfl rfl rfl rfl hb2 rfl rfl ?_
        refine v_off hC rfl rfl rfl rfl hb2 rfl rfl ?_
        refine v_pick hC rfl rfl rfl (b := false) hb2 rfl rfl rfl trivial ?_
        refine v_op hT hC rfl rfl rfl rfl trivial ?_
        refine v_off hC rfl rfl rfl rfl rfl rfl rfl ?_
        refine v_off hC rfl rfl rfl rfl rfl rfl rfl ?_
        refine v_off hC rfl rfl rfl rfl rfl rfl rfl ?_
        iterate 2 refine v_op hT hC rfl rfl rfl rfl trivial ?_
        refine v_off hC rfl rfl rfl rfl rfl rfl rfl ?_
        refine v_off hC rfl rfl rfl rfl rfl rfl rfl ?_
        refine v_off hC rfl rfl rfl rfl rfl rfl rfl ?_
        refine v_off hC rfl rfl rfl rfl rfl rfl rfl ?_
        iterate 2 refine v_op hT hC rfl rfl rfl rfl trivial ?_
        refine Vc.nil ?_
        injection h with h
        subst h
        refine m_norm ?_
        apply w_conv hC []
        · repeat' first | exact CO.nil | apply CO.gone | apply CO.row rfl rfl | apply CO.box rfl rfl | decide
        · rfl
        · decide
        · rfl
    refine aw_ret ?_
    refine b_ret ?_
    refine t_ret ?_
    injection h with h
    subst h
    exact ends (Weak.refl _) rfl trivial
  · refine s_false rfl hb1 ?_
    refine s_reg ?_
    iterate 2 refine v_op hT hC rfl rfl rfl rfl trivial ?_
    refine Vc.nil ?_
    rcases sel_some h with ⟨hb5, h⟩ | ⟨hb5, h⟩
    · refine s_true rfl hb5 ?_
      refine live [1, 2] [16] (s' := [_, _]) (o' := [_]) rfl rfl ?_
      obtain ⟨v2, h1, h⟩ := bnd_some h
      refine aw_to ([(2, .sv (.bool v2)), (1, .any)], [(16, none)]) ?_ ?_
      · have h := h1
        refine aw_region ?_
        iterate 4 refine v_op hT hC rfl rfl rfl rfl trivial ?_
        rcases sel_some h with ⟨hb6, h⟩ | ⟨hb6, h⟩
        · iterate 2 refine v_on hT hC rfl rfl rfl rfl hb6 rfl rfl rfl trivial ?_
          obtain ⟨q3, hq, h⟩ := bnd_some h
          refine v_call_on hC [] rfl rfl rfl rfl hb6 rfl rfl rfl Try.call102 (impl_within_ac hq) rfl (by decide) trivial rfl (.inl rfl) rfl ?_
          refine v_pick hC rfl rfl rfl (b := true) hb6 rfl rfl rfl trivial ?_
          refine v_op hT hC rfl rfl rfl rfl trivial ?_
          rcases sel_some h with ⟨hb7, h⟩ | ⟨hb7, h⟩
          · iterate 2 refine v_on hT hC rfl rfl rfl rfl hb7 rfl rfl rfl trivial ?_
            obtain ⟨q4, hq, h⟩ := bnd_some h
            refine v_call_on hC [] rfl rfl rfl rfl hb7 rfl rfl rfl Try.call102 (impl_within_ac hq) rfl (by decide) trivial rfl (.inl rfl) rfl ?_
            refine v_pick hC rfl rfl rfl (b := true) hb7 rfl rfl rfl trivial ?_
            refine v_op hT hC rfl rfl rfl rfl trivial ?_
            rcases sel_some h with ⟨hb8, h⟩ | ⟨hb8, h⟩
            · iterate 2 refine v_on hT hC rfl rfl rfl rfl hb8 rfl rfl rfl trivial ?_
              obtain ⟨q5, hq, h⟩ := bnd_some h
              refine v_call_on hC [] rfl rfl rfl rfl hb8 rfl rfl rfl Try.call168 (impl_areLevels_ac hq) rfl (by decide) trivial rfl (.inl rfl) rfl ?_
              refine v_pick hC rfl rfl rfl (b := true) hb8 rfl rfl rfl trivial ?_
              refine v_op hT hC rfl rfl rfl rfl trivial ?_
              refine Vc.nil ?_
              injection h with h
              subst h
              refine m_norm ?_
              apply w_conv hC []
              · repeat' first | exact CO.nil | apply CO.gone | apply CO.row rfl rfl | apply CO.box rfl rfl | decide
              · rfl
              · decide
              · rfl
            · refine v_off hC rfl rfl rfl rfl hb8 rfl rfl ?_
              refine v_off hC rfl rfl rfl rfl hb8 rfl rfl ?_
              refine v_off hC rfl rfl rfl rfl hb8 rfl rfl ?_
              refine v_pick hC rfl rfl rfl (b := false) hb8 rfl rfl rfl trivial ?_
              refine v_op hT hC rfl rfl rfl rfl trivial ?_
              refine Vc.nil ?_
              injection h with h
              subst h
              refine m_norm ?_
              apply w_conv hC []
              · repeat' first | exact CO.nil | apply CO.gone | apply CO.row rfl rfl | apply CO.box rfl rfl | decide
              · rfl
              · decide
              · rfl
          · refine v_off hC rfl rfl rfl rfl hb7 rfl rfl ?_
            refine v_off hC rfl rfl rfl rfl hb7 rfl rfl ?_
            refine v_off hC rfl rfl rfl rfl hb7 rfl rfl ?_
            refine v_pick hC rfl rfl rfl (b := false) hb7 rfl rfl rfl trivial ?_
            refine v_op hT hC rfl rfl rfl rfl trivial ?_
            refine v_off hC rfl rfl rfl rfl rfl rfl rfl ?_
            refine v_off hC rfl rfl rfl rfl rfl rfl rfl ?_
            refine v_off hC rfl rfl rfl rfl rfl rfl rfl ?_
            iterate 2 refine v_op hT hC rfl rfl rfl rfl trivial ?_
            refine Vc.nil ?_
            injection h with h
            subst h
            refine m_norm ?_
            apply w_conv hC []
            · repeat' first | exact CO.nil | apply CO.gone | apply CO.row rfl rfl | apply CO.box rfl rfl | decide
            · rfl
            · decide
            · rfl
        · refine v_off hC rfl rfl rfl rfl hb6 rfl rfl ?_
          refine v_off hC rfl rfl rfl rfl hb6 rfl rfl ?_
          refine v_off hC rfl rfl rfl rfl hb6 rfl rfl ?_
          refine v_pick hC rfl rfl rfl (b := false) hb6 rfl rfl rfl trivial ?_
          refine v_op hT hC rfl rfl rfl rfl trivial ?_
          refine v_off hC rfl rfl rfl rfl rfl rfl rfl ?_
          refine v_off hC rfl rfl rfl rfl rfl rfl rfl ?_
          refine v_off hC rfl rfl rfl rfl rfl rfl rfl ?_
          iterate 2 refine v_op hT hC rfl rfl rfl rfl trivial ?_
          refine v_off hC rfl rfl rfl rfl rfl rfl rfl ?_
          refine v_off hC rfl rfl rfl rfl rfl rfl rfl ?_
          refine v_off hC rfl rfl rfl rfl rfl rfl rfl ?_
          iterate 2 refine v_op hT hC rfl rfl rfl rfl trivial ?_
          refine Vc.nil ?_
          injection h with h
          subst h
          refine m_norm ?_
          apply w_conv hC []
          · repeat' first | exact CO.nil | apply CO.gone | apply CO.row rfl rfl | apply CO.box rfl rfl | decide
          · rfl
          · decide
          · rfl
      refine aw_ret ?_
      refine b_ret ?_
      refine t_ret ?_
      injection h with h
      subst h
      exact ends (Weak.refl _) rfl trivial
    · refine s_false rfl hb5 ?_
      refine s_reg ?_
      iterate 2 refine v_op hT hC rfl rfl rfl rfl trivial ?_
      refine Vc.nil ?_
      rcases sel_some h with ⟨hb9, h⟩ | ⟨hb9, h⟩
      · refine s_true rfl hb9 ?_
        refine live [1, 2] [16] (s' := [_, _]) (o' := [_]) rfl rfl ?_
        obtain ⟨v6, h1, h⟩ := bnd_some h
        refine aw_to ([(2, .sv (.bool v6)), (1, .any)], [(16, none)]) ?_ ?_
        · have h := h1
          refine aw_region ?_
          iterate 2 refine v_op hT hC rfl rfl rfl rfl trivial ?_
          obtain ⟨q7, hq, h⟩ := bnd_some h
          refine v_call hC [] rfl rfl rfl rfl Try.call102 (impl_within_ac hq) rfl (by decide) trivial rfl (.inl rfl) rfl ?_
          refine v_op hT hC rfl rfl rfl rfl trivial ?_
          rcases sel_some h with ⟨hb10, h⟩ | ⟨hb10, h⟩
          · iterate 3 refine v_on hT hC rfl rfl rfl rfl hb10 rfl rfl rfl trivial ?_
            refine v_pick hC rfl rfl rfl (b := true) hb10 rfl rfl rfl trivial ?_
            refine v_op hT hC rfl rfl rfl rfl trivial ?_
            rcases sel_some h with ⟨hb11, h⟩ | ⟨hb11, h⟩
            · iterate 3 refine v_on hT hC rfl rfl rfl rfl hb11 rfl rfl rfl trivial ?_
              refine v_pick hC rfl rfl rfl (b := true) hb11 rfl rfl rfl trivial ?_
              refine v_op hT hC rfl rfl rfl rfl trivial ?_
              rcases sel_some h with ⟨hb12, h⟩ | ⟨hb12, h⟩
              · iterate 2 refine v_on hT hC rfl rfl rfl rfl hb12 rfl rfl rfl trivial ?_
                obtain ⟨q8, hq, h⟩ := bnd_some h
                refine v_call_on hC [] rfl rfl rfl rfl hb12 rfl rfl rfl Try.call168 (impl_areLevels_ac hq) rfl (by decide) trivial rfl (.inl rfl) rfl ?_
                refine v_pick hC rfl rfl rfl (b := true) hb12 rfl rfl rfl trivial ?_
                refine v_op hT hC rfl rfl rfl rfl trivial ?_
                refine Vc.nil ?_
                injection h with h
                subst h
                refine m_norm ?_
                apply w_conv hC []
                · repeat' first | exact CO.nil | apply CO.gone | apply CO.row rfl rfl | apply CO.box rfl rfl | decide
                · rfl
                · decide
                · rfl
              · refine v_off hC rfl rfl rfl rfl hb12 rfl rfl ?_
                refine v_off hC rfl rfl rfl rfl hb12 rfl rfl ?_
                refine v_off hC rfl rfl rfl rfl hb12 rfl rfl ?_
                refine v_pick hC rfl rfl rfl (b := false) hb12 rfl rfl rfl trivial ?_
                refine v_op hT hC rfl rfl rfl rfl trivial ?_
                refine Vc.nil ?_
                injection h with h
                subst h
                refine m_norm ?_
                apply w_conv hC []
                · repeat' first | exact CO.nil | apply CO.gone | apply CO.row rfl rfl | apply CO.box rfl rfl | decide
                · rfl
                · decide
                · rfl
            · refine v_off hC rfl rfl rfl rfl hb11 rfl rfl ?_
              refine v_off hC rfl rfl rfl rfl hb11 rfl rfl ?_
              refine v_off hC rfl rfl rfl rfl hb11 rfl rfl ?_
              refine v_pick hC rfl rfl rfl (b := false) hb11 rfl rfl rfl trivial ?_
              refine v_op hT hC rfl rfl rfl rfl trivial ?_
              refine v_off hC rfl rfl rfl rfl rfl rfl rfl ?_
              refine v_off hC rfl rfl rfl rfl rfl rfl rfl ?_
              refine v_off hC rfl rfl rfl rfl rfl rfl rfl ?_
              iterate 2 refine v_op hT hC rfl rfl rfl rfl trivial ?_
              refine Vc.nil ?_
              injection h with h
              subst h
              refine m_norm ?_
              apply w_conv hC []
              · repeat' first | exact CO.nil | apply CO.gone | apply CO.row rfl rfl | apply CO.box rfl rfl | decide
              · rfl
              · decide
              · rfl
          · refine v_off hC rfl rfl rfl rfl hb10 rfl rfl ?_
            refine v_off hC rfl rfl rfl rfl hb10 rfl rfl ?_
            refine v_off hC rfl rfl rfl rfl hb10 rfl rfl ?_
            refine v_pick hC rfl rfl rfl (b := false) hb10 rfl rfl rfl trivial ?_
            refine v_op hT hC rfl rfl rfl rfl trivial ?_
            refine v_off hC rfl rfl rfl rfl rfl rfl rfl ?_
            refine v_off hC rfl rfl rfl rfl rfl rfl rfl ?_
            refine v_off hC rfl rfl rfl rfl rfl rfl rfl ?_
            iterate 2 refine v_op hT hC rfl rfl rfl rfl trivial ?_
            refine v_off hC rfl rfl rfl rfl rfl rfl rfl ?_
            refine v_off hC rfl rfl rfl rfl rfl rfl rfl ?_
            refine v_off hC rfl rfl rfl rfl rfl rfl rfl ?_
            iterate 2 refine v_op hT hC rfl rfl rfl rfl trivial ?_
            refine Vc.nil ?_
            injection h with h
            subst h
            refine m_norm ?_
            apply w_conv hC []
            · repeat' first | exact CO.nil | apply CO.gone | apply CO.row rfl rfl | apply CO.box rfl rfl | decide
            · rfl
            · decide
            · rfl
        refine aw_ret ?_
        refine b_ret ?_
        refine t_ret ?_
        injection h with h
        subst h
        exact ends (Weak.refl _) rfl trivial
      · refine s_false rfl hb9 ?_
        refine aw_skip ?_
        refine b_norm ?_
        refine t_norm ?_
        refine s_reg ?_
        refine v_op hT hC rfl rfl rfl rfl trivial ?_
        refine Vc.nil ?_
        refine aw_ret ?_
        injection h with h
        subst h
        exact ends (Weak.refl _) rfl trivial
def impl_CondOk_res (r : Bool) : AV := .sv (.bool r)
def impl_CondOk_obs (r : Bool) : Objs := []
theorem impl_CondOk_ac {p0 : Cond} {r : Bool} (h : impl_CondOk p0 = some r) : AC Try.prog 87 [.agg [.sv (.bool p0.Key), .sv (.int .i64 p0.Qp), .sv (.bool p0.Large), .sv (.bool p0.Exact)]] [] (impl_CondOk_res r) (impl_CondOk_obs r) := by
  refine ac_of_body hT Try.func87 rfl fun C hC => ?_
  unfold impl_CondOk at h
  refine s_reg ?_
  iterate 2 refine v_op hT hC rfl rfl rfl rfl trivial ?_
  refine Vc.nil ?_
  refine live [1, 2] [16] (s' := [_, _]) (o' := [_]) rfl rfl ?_
  obtain ⟨v1, h1, h⟩ := bnd_some h
  refine aw_to ([(2, .sv (.bool v1)), (1, .any)], [(16, none)]) ?_ ?_
  · have h := h1
    refine aw_region ?_
    iterate 2 refine v_op hT hC rfl rfl rfl rfl trivial ?_
    obtain ⟨q2, hq, h⟩ := bnd_some h
    refine v_call hC [] rfl rfl rfl rfl Try.call102 (impl_within_ac hq) rfl (by decide) trivial rfl (.inl rfl) rfl ?_
    refine v_op hT hC rfl rfl rfl rfl trivial ?_
    rcases sel_some h with ⟨hb1, h⟩ | ⟨hb1, h⟩
    · iterate 3 refine v_on hT hC rfl rfl rfl rfl hb1 rfl rfl rfl trivial ?_
      rcases sel_some h with ⟨hb2, h⟩ | ⟨hb2, h⟩
      · iterate 2 refine v_on hT hC rfl rfl rfl rfl hb2 rfl rfl rfl trivial ?_
        refine v_pick_on hC rfl rfl rfl rfl hb1 rfl rfl (b := true) hb2 rfl rfl rfl trivial ?_
        refine v_on hT hC rfl rfl rfl rfl hb1 rfl rfl rfl trivial ?_
        refine v_pick hC rfl rfl rfl (b := true) hb1 rfl rfl rfl trivial ?_
        refine v_op hT hC rfl rfl rfl rfl trivial ?_
        refine Vc.nil ?_
        injection h with h
        subst h
        refine m_norm ?_
        apply w_conv hC []
        · repeat' first | exact CO.nil | apply CO.gone | apply CO.row rfl rfl | apply CO.box rfl rfl | decide
        · rfl
        · decide
        · rfl
      · refine v_off hC rfl rfl rfl rfl hb2 rfl rfl ?_
        refine v_off hC rfl rfl rfl rfl hb2 rfl rfl ?_
        refine v_pick_on hC rfl rfl rfl rfl hb1 rfl rfl (b := false) hb2 rfl rfl rfl trivial ?_
        refine v_on hT hC rfl rfl rfl rfl hb1 rfl rfl rfl trivial ?_
        refine v_pick hC rfl rfl rfl (b := true) hb1 rfl rfl rfl trivial ?_
        refine v_op hT hC rfl rfl rfl rfl trivial ?_
        refine Vc.nil ?_
        injection h with h
        subst h
        refine m_norm ?_
        apply w_conv hC []
        · repeat' first | exact CO.nil | apply CO.gone | apply CO.row rfl rfl | apply CO.box rfl rfl | decide
        · rfl
        · decide
        · rfl
    · refine v_off hC rfl rfl rfl rfl hb1 rfl rfl ?_
      refine v_off hC rfl rfl rfl rfl hb1 rfl rfl ?_
      refine v_off hC rfl rfl rfl rfl hb1 rfl rfl ?_
      iterate 2 refine v_dead hC rfl rfl rfl rfl rfl rfl ?_
      refine v_off hC rfl rfl rfl rfl hb1 rfl rfl ?_
      refine v_off hC rfl rfl rfl rfl hb1 rfl rfl ?_
      refine v_pick hC rfl rfl rfl (b := false) hb1 rfl rfl rfl trivial ?_
      refine v_op hT hC rfl rfl rfl rfl trivial ?_
      refine Vc.nil ?_
      injection h with h
      subst h
      refine m_norm ?_
      apply w_conv hC []
      · repeat' first | exact CO.nil | apply CO.gone | apply CO.row rfl rfl | apply CO.box rfl rfl | decide
      · rfl
      · decide
      · rfl
  refine aw_ret ?_
  injection h with h
  subst h
  exact ends (Weak.refl _) rfl trivial
def impl_Square_let_res (r : Bool) : AV := .sv (.bool r)
def impl_Square_let_obs (r : Bool) : Objs := []
theorem impl_Square_let_ac {p0 : Square} {p1 : Cond} {r : Bool} (h : impl_Square_let p0 p1 = some r) : AC Try.prog 165 [.agg [.sv (.int .i64 p0.Kind), .sv (.int .i64 p0.Mode), .sv (.int .i64 p0.Dx), .sv (.int .i64 p0.Dy), .sv (.ints .i64 p0.Levels)], .agg [.sv (.bool p1.Key), .sv (.int .i64 p1.Qp), .sv (.bool p1.Large), .sv (.bool p1.Exact)]] [] (impl_Square_let_res r) (impl_Square_let_obs r) := by
  refine ac_of_body hT Try.func165 rfl fun C hC => ?_
  unfold impl_Square_let at h
  refine s_reg ?_
  iterate 3 refine v_op hT hC rfl rfl rfl rfl trivial ?_
  refine Vc.nil ?_
  refine live [2, 3, 4] [32, 48] (s' := [_, _, _]) (o' := [_, _]) rfl rfl ?_
  obtain ⟨v1, h1, h⟩ := bnd_some h
  refine aw_to ([(4, .sv (.bool v1)), (2, .any), (3, .any)], [(32, none), (48, none)]) ?_ ?_
  · have h := h1
    refine aw_region ?_
    iterate 4 refine v_op hT hC rfl rfl rfl rfl trivial ?_
    rcases sel_some h with ⟨hb1, h⟩ | ⟨hb1, h⟩
    · iterate 3 refine v_on hT hC rfl rfl rfl rfl (congrArg Bool.not hb1) rfl rfl rfl trivial ?_
      refine v_pick hC rfl rfl rfl (b := false) (congrArg Bool.not hb1) rfl rfl rfl trivial ?_
      refine v_op hT hC rfl rfl rfl rfl trivial ?_
      refine Vc.nil ?_
      injection h with h
      subst h
      refine m_norm ?_
      apply w_conv hC []
      · repeat' first | exact CO.nil | apply CO.gone | apply CO.row rfl rfl | apply CO.box rfl rfl | decide
      · rfl
      · decide
      · rfl
    · refine v_off hC rfl rfl rfl rfl (congrArg Bool.not hb1) rfl rfl ?_
      refine v_off hC rfl rfl rfl rfl (congrArg Bool.not hb1) rfl rfl ?_
      refine v_off hC rfl rfl rfl rfl (congrArg Bool.not hb1) rfl rfl ?_
      refine v_pick hC rfl rfl rfl (b := true) (congrArg Bool.not hb1) rfl rfl rfl trivial ?_
      refine v_op hT hC rfl rfl rfl rfl trivial ?_
      refine Vc.nil ?_
      injection h with h
      subst h
      refine m_norm ?_
      apply w_conv hC []
      · repeat' first | exact CO.nil | apply CO.gone | apply CO.row rfl rfl | apply CO.box rfl rfl | decide
      · rfl
      · decide
      · rfl
  refine aw_ret ?_
  injection h with h
  subst h
  exact ends (Weak.refl _) rfl trivial
def impl_runs_res (r : (List Int)) : AV := .own 16
def impl_runs_obs (r : (List Int)) : Objs := [(16, .ints .u8 r)]
theorem impl_runs_ac {p0 : (List Int)} {r : (List Int)} (h : impl_runs p0 = some r) : AC Try.prog 285 [.sv (.ints .i64 p0)] [] (impl_runs_res r) (impl_runs_obs r) := by
  refine ac_of_body hT Try.func285 rfl fun C hC => ?_
  unfold impl_runs at h
  refine s_reg ?_
  refine v_op hT hC rfl rfl rfl rfl trivial ?_
  refine Vc.nil ?_
  refine s_reg ?_
  iterate 2 refine v_op hT hC rfl rfl rfl rfl trivial ?_
  refine Vc.nil ?_
  refine s_reg ?_
  refine v_op hT hC rfl rfl rfl rfl trivial ?_
  refine Vc.nil ?_
  refine s_in ?_
  refine s_reg ?_
  iterate 3 refine v_op hT hC rfl rfl rfl rfl trivial ?_
  refine Vc.nil ?_
  refine live [0, 3, 4, 13, 14, 15] [192] (s' := [_, _, _, _, _, _]) (o' := [_]) rfl rfl ?_
  obtain ⟨v6, hl, h⟩ := bnd_some h
  refine s_loop (fun v3 => ([(4, .sv (.int .i64 v3.1)), (15, .sv (.int .i64 v3.2))], [])) (fun v6 => ([(4, .sv (.int .i64 v6)), (13, .any), (14, .any), (15, .any)], [])) hl ?_ ?_ ?_
  · try dsimp only
    apply w_conv hC []
    · repeat' first | exact CO.nil | apply CO.gone | apply CO.row rfl rfl | apply CO.box rfl rfl | decide
    · rfl
    · decide
    · rfl
  · intro v3 s hs
    have h := hs
    unfold impl_runs_l2 at h
    refine s_reg ?_
    refine v_op hT hC rfl rfl rfl rfl trivial ?_
    refine Vc.nil ?_
    refine s_in ?_
    rcases sel_some h with ⟨hb5, h⟩ | ⟨hb5, h⟩
    · refine s_true rfl hb5 ?_
      refine aw_skip ?_
      refine t_norm ?_
      refine live [0, 3, 4, 13, 14, 15] [192] (s' := [_, _, _, _, _, _]) (o' := [_]) rfl rfl ?_
      obtain ⟨v7, h1, h⟩ := bnd_some h
      refine aw_to ([(4, .sv (.int .i64 v7))], []) ?_ ?_
      · have h := h1
        refine s_block ?_
        refine s_reg ?_
        obtain ⟨hq, h⟩ := req_some h
        refine v_op hT hC rfl rfl rfl rfl hq ?_
        iterate 2 refine v_op hT hC rfl rfl rfl rfl trivial ?_
        refine Vc.nil ?_
        refine s_reg ?_
        iterate 2 refine v_op hT hC rfl rfl rfl rfl trivial ?_
        refine Vc.nil ?_
        rcases sel_some h with ⟨hb6, h⟩ | ⟨hb6, h⟩
        · refine s_true rfl hb6 ?_
          refine aw_region ?_
          iterate 3 refine v_op hT hC rfl rfl rfl rfl trivial ?_
          refine Vc.nil ?_
          refine b_norm ?_
          injection h with h
          subst h
          refine m_norm ?_
          apply w_conv hC []
          · repeat' first | exact CO.nil | apply CO.gone | apply CO.row rfl rfl | apply CO.box rfl rfl | decide
          · rfl
          · decide
          · rfl
        · refine s_false rfl hb6 ?_
          refine aw_skip ?_
          refine b_norm ?_
          injection h with h
          subst h
          refine m_norm ?_
          apply w_conv hC []
          · repeat' first | exact CO.nil | apply CO.gone | apply CO.row rfl rfl | apply CO.box rfl rfl | decide
          · rfl
          · decide
          · rfl
      refine aw_region ?_
      iterate 2 refine v_op hT hC rfl rfl rfl rfl trivial ?_
      refine Vc.nil ?_
      injection h with h
      subst h
      refine r_go ?_
      try dsimp only
      apply w_conv hC []
      · repeat' first | exact CO.nil | apply CO.gone | apply CO.row rfl rfl | apply CO.box rfl rfl | decide
      · rfl
      · decide
      · rfl
    · refine s_false rfl hb5 ?_
      refine aw_exit ?_
      refine t_exit ?_
      injection h with h
      subst h
      refine r_exit ?_
      refine o_out ?_
      apply w_conv hC []
      · repeat' first | exact CO.nil | apply CO.gone | apply CO.row rfl rfl | apply CO.box rfl rfl | decide
      · rfl
      · decide
      · rfl
  refine t_norm ?_
  refine s_reg ?_
  iterate 2 refine v_op hT hC rfl rfl rfl rfl trivial ?_
  obtain ⟨q9, hq, h⟩ := bnd_some h
  refine v_call hC [] rfl rfl rfl rfl Try.call225 (impl_ue_ac hq) rfl (by decide) trivial rfl (.inl rfl) rfl ?_
  obtain ⟨hq, h⟩ := req_some h
  refine v_op hT hC rfl rfl rfl rfl ⟨trivial, hq⟩ ?_
  refine v_op hT hC rfl rfl rfl rfl trivial ?_
  refine Vc.nil ?_
  refine s_reg ?_
  refine v_op hT hC rfl rfl rfl rfl trivial ?_
  refine Vc.nil ?_
  refine s_in ?_
  refine s_reg ?_
  iterate 3 refine v_op hT hC rfl rfl rfl rfl trivial ?_
  refine Vc.nil ?_
  refine live [3, 7, 28, 29, 30] [432] (s' := [_, _, _, _, _]) (o' := [_]) rfl rfl ?_
  obtain ⟨v21, hl, h⟩ := bnd_some h
  refine s_loop (fun v15 => ([(7, .sv (.int .i64 v15.1)), (30, .sv (.int .i64 v15.2.1))], [(432, some (.ints .u8 v15.2.2))])) (fun v21 => ([(7, .any), (28, .any), (29, .any), (30, .any)], [(432, some (.ints .u8 v21))])) hl ?_ ?_ ?_
  · try dsimp only
    apply w_conv hC []
    · repeat' first | exact CO.nil | apply CO.gone | apply CO.row rfl rfl | apply CO.box rfl rfl | decide
    · rfl
    · decide
    · rfl
  · intro v15 s hs
    have h := hs
    unfold impl_runs_l4 at h
    refine s_reg ?_
    refine v_op hT hC rfl rfl rfl rfl trivial ?_
    refine Vc.nil ?_
    refine s_in ?_
    rcases sel_some h with ⟨hb11, h⟩ | ⟨hb11, h⟩
    · refine s_true rfl hb11 ?_
      refine aw_skip ?_
      refine t_norm ?_
      refine live [3, 7, 28, 29, 30] [432] (s' := [_, _, _, _, _]) (o' := [_]) rfl rfl ?_
      obtain ⟨v22, h1, h⟩ := bnd_some h
      refine aw_to ([(7, .sv (.int .i64 v22.1))], [(432, some (.ints .u8 v22.2))]) ?_ ?_
      · have h := h1
        refine s_block ?_
        refine s_reg ?_
        obtain ⟨hq, h⟩ := req_some h
        refine v_op hT hC rfl rfl rfl rfl hq ?_
        iterate 2 refine v_op hT hC rfl rfl rfl rfl trivial ?_
        refine Vc.nil ?_
        refine s_in ?_
        refine s_reg ?_
        iterate 2 refine v_op hT hC rfl rfl rfl rfl trivial ?_
        refine Vc.nil ?_
        rcases sel_some h with ⟨hb12, h⟩ | ⟨hb12, h⟩
        · refine s_true rfl hb12 ?_
          refine s_reg ?_
          iterate 3 refine v_op hT hC rfl rfl rfl rfl trivial ?_
          refine Vc.nil ?_
          refine aw_exit ?_
          refine t_exit ?_
          refine b_exit ?_
          injection h with h
          subst h
          refine m_norm ?_
          try dsimp only
          apply w_conv hC []
          · repeat' first | exact CO.nil | apply CO.gone | apply CO.row rfl rfl | apply CO.box rfl rfl | decide
          · rfl
          · decide
          · rfl
        · refine s_false rfl hb12 ?_
          refine aw_skip ?_
          refine t_norm ?_
          refine s_reg ?_
          refine v_op hT hC rfl rfl rfl rfl trivial ?_
          obtain ⟨q23, hq, h⟩ := bnd_some h
          refine v_call hC [] rfl rfl rfl rfl Try.call193 (impl_FoldSe_ac hq) rfl (by decide) trivial rfl (.inl rfl) rfl ?_
          iterate 5 refine v_op hT hC rfl rfl rfl rfl trivial ?_
          refine Vc.nil ?_
          refine s_reg ?_
          iterate 2 refine v_op hT hC rfl rfl rfl rfl trivial ?_
          obtain ⟨q24, hq, h⟩ := bnd_some h
          refine v_call hC [] rfl rfl rfl rfl Try.call225 (impl_ue_ac hq) rfl (by decide) trivial rfl (.inl rfl) rfl ?_
          obtain ⟨hq, h⟩ := req_some h
          refine v_op hT hC rfl rfl rfl rfl ⟨trivial, hq⟩ ?_
          refine v_op hT hC rfl rfl rfl rfl trivial ?_
          obtain ⟨q25, hq, h⟩ := bnd_some h
          refine v_call hC [] rfl rfl rfl rfl Try.call225 (impl_ue_ac hq) rfl (by decide) trivial rfl (.inl rfl) rfl ?_
          obtain ⟨hq, h⟩ := req_some h
          refine v_op hT hC rfl rfl rfl rfl ⟨trivial, hq⟩ ?_
          refine v_op hT hC rfl rfl rfl rfl trivial ?_
          refine Vc.nil ?_
          refine aw_region ?_
          refine v_op hT hC rfl rfl rfl rfl trivial ?_
          refine Vc.nil ?_
          refine b_norm ?_
          injection h with h
          subst h
          refine m_norm ?_
          try dsimp only
          apply w_conv hC [(432, 784)]
          · repeat' first | exact CO.nil | apply CO.gone | apply CO.row rfl rfl | apply CO.box rfl rfl | decide
          · rfl
          · decide
          · rfl
      refine aw_region ?_
      iterate 2 refine v_op hT hC rfl rfl rfl rfl trivial ?_
      refine Vc.nil ?_
      injection h with h
      subst h
      refine r_go ?_
      try dsimp only
      apply w_conv hC []
      · repeat' first | exact CO.nil | apply CO.gone | apply CO.row rfl rfl | apply CO.box rfl rfl | decide
      · rfl
      · decide
      · rfl
    · refine s_false rfl hb11 ?_
      refine aw_exit ?_
      refine t_exit ?_
      injection h with h
      subst h
      refine r_exit ?_
      refine o_out ?_
      apply w_conv hC []
      · repeat' first | exact CO.nil | apply CO.gone | apply CO.row rfl rfl | apply CO.box rfl rfl | decide
      · rfl
      · decide
      · rfl
  refine t_norm ?_
  refine s_reg ?_
  iterate 2 refine v_op hT hC rfl rfl rfl rfl trivial ?_
  refine Vc.nil ?_
  refine aw_ret ?_
  injection h with h
  subst h
  refine ends (τ := ⟨[(2, .own 16)], [(16, some (.ints .u8 v21))]⟩) ?_ rfl ⟨rfl, trivial⟩
  apply w_conv hC [(16, 432)]
  · repeat' first | exact CO.nil | apply CO.gone | apply CO.row rfl rfl | apply CO.box rfl rfl | decide
  · rfl
  · decide
  · rfl
def impl_levelsRow_res (r : (List Int)) : AV := .own 16
def impl_levelsRow_obs (r : (List Int)) : Objs := [(16, .ints .u8 r)]
theorem impl_levelsRow_ac {p0 : (List Int)} {p1 : Cond} {r : (List Int)} (h : impl_levelsRow p0 p1 = some r) : AC Try.prog 249 [.sv (.ints .i64 p0), .agg [.sv (.bool p1.Key), .sv (.int .i64 p1.Qp), .sv (.bool p1.Large), .sv (.bool p1.Exact)]] [] (impl_levelsRow_res r) (impl_levelsRow_obs r) := by
  refine ac_of_body hT Try.func249 rfl fun C hC => ?_
  unfold impl_levelsRow at h
  refine s_reg ?_
  iterate 2 refine v_op hT hC rfl rfl rfl rfl trivial ?_
  refine Vc.nil ?_
  refine s_in ?_
  refine live [0, 3] [48] (s' := [_, _]) (o' := [_]) rfl rfl ?_
  obtain ⟨v1, h1, h⟩ := bnd_some h
  refine aw_to ([(12, .sv (.bool v1)), (3, .any)], [(48, none)]) ?_ ?_
  · have h := h1
    refine aw_region ?_
    iterate 3 refine v_op hT hC rfl rfl rfl rfl trivial ?_
    rcases sel_some h with ⟨hb1, h⟩ | ⟨hb1, h⟩
    · refine v_off hC rfl rfl rfl rfl hb1 rfl rfl ?_
      refine v_off hC rfl rfl rfl rfl hb1 rfl rfl ?_
      refine v_pick hC rfl rfl rfl (b := true) hb1 rfl rfl rfl trivial ?_
      refine Vc.nil ?_
      injection h with h
      subst h
      refine m_norm ?_
      apply w_conv hC []
      · repeat' first | exact CO.nil | apply CO.gone | apply CO.row rfl rfl | apply CO.box rfl rfl | decide
      · rfl
      · decide
      · rfl
    · iterate 2 refine v_on hT hC rfl rfl rfl rfl hb1 rfl rfl rfl trivial ?_
      refine v_pick hC rfl rfl rfl (b := false) hb1 rfl rfl rfl trivial ?_
      refine Vc.nil ?_
      injection h with h
      subst h
      refine m_norm ?_
      apply w_conv hC []
      · repeat' first | exact CO.nil | apply CO.gone | apply CO.row rfl rfl | apply CO.box rfl rfl | decide
      · rfl
      · decide
      · rfl
  rcases sel_some h with ⟨hb2, h⟩ | ⟨hb2, h⟩
  · refine s_true rfl hb2 ?_
    refine s_reg ?_
    refine v_op hT hC rfl rfl rfl rfl trivial ?_
    obtain ⟨q2, hq, h⟩ := bnd_some h
    refine v_call hC [(16, 224)] rfl rfl rfl rfl Try.call285 (impl_runs_ac hq) rfl (by decide) trivial rfl (.inl rfl) rfl ?_
    refine v_op hT hC rfl rfl rfl rfl trivial ?_
    refine Vc.nil ?_
    refine aw_ret ?_
    refine t_ret ?_
    injection h with h
    subst h
    refine ends (τ := ⟨[(4, .own 16)], [(16, some (.ints .u8 q2))]⟩) ?_ rfl ⟨rfl, trivial⟩
    apply w_conv hC [(16, 224)]
    · repeat' first | exact CO.nil | apply CO.gone | apply CO.row rfl rfl | apply CO.box rfl rfl | decide
    · rfl
    · decide
    · rfl
  · refine s_false rfl hb2 ?_
    refine aw_skip ?_
    refine t_norm ?_
    refine s_reg ?_
    iterate 2 refine v_op hT hC rfl rfl rfl rfl trivial ?_
    refine Vc.nil ?_
    refine s_in ?_
    refine s_reg ?_
    refine v_op hT hC rfl rfl rfl rfl trivial ?_
    refine Vc.nil ?_
    refine live [0, 5, 16] [240] (s' := [_, _, _]) (o' := [_]) rfl rfl ?_
    obtain ⟨v8, hl, h⟩ := bnd_some h
    refine s_loop (fun v5 => ([(16, .sv (.int .i64 v5.1))], [(240, some (.ints .u8 v5.2))])) (fun v8 => ([(0, .any), (16, .any)], [(240, some (.ints .u8 v8))])) hl ?_ ?_ ?_
    · try dsimp only
      apply w_conv hC []
      · repeat' first | exact CO.nil | apply CO.gone | apply CO.row rfl rfl | apply CO.box rfl rfl | decide
      · rfl
      · decide
      · rfl
    · intro v5 s hs
      have h := hs
      unfold impl_levelsRow_l2 at h
      refine s_reg ?_
      refine v_op hT hC rfl rfl rfl rfl trivial ?_
      refine Vc.nil ?_
      refine s_in ?_
      rcases sel_some h with ⟨hb5, h⟩ | ⟨hb5, h⟩
      · refine s_true rfl hb5 ?_
        refine aw_skip ?_
        refine t_norm ?_
        refine s_in ?_
        refine s_block ?_
        refine s_reg ?_
        iterate 2 refine v_op hT hC rfl rfl rfl rfl trivial ?_
        refine Vc.nil ?_
        refine aw_region ?_
        iterate 7 refine v_op hT hC rfl rfl rfl rfl trivial ?_
        obtain ⟨hq, h⟩ := req_some h
        refine v_op hT hC rfl rfl rfl rfl hq ?_
        obtain ⟨q9, hq, h⟩ := bnd_some h
        refine v_call hC [(16, 432)] rfl rfl rfl rfl Try.call285 (impl_runs_ac hq) rfl (by decide) trivial rfl (.inl rfl) rfl ?_
        obtain ⟨hq, h⟩ := req_some h
        refine v_op hT hC rfl rfl rfl rfl ⟨trivial, hq⟩ ?_
        refine v_op hT hC rfl rfl rfl rfl trivial ?_
        refine Vc.nil ?_
        refine b_norm ?_
        refine t_norm ?_
        refine aw_region ?_
        iterate 2 refine v_op hT hC rfl rfl rfl rfl trivial ?_
        refine Vc.nil ?_
        injection h with h
        subst h
        refine r_go ?_
        try dsimp only
        apply w_conv hC [(240, 448)]
        · repeat' first | exact CO.nil | apply CO.gone | apply CO.row rfl rfl | apply CO.box rfl rfl | decide
        · rfl
        · decide
        · rfl
      · refine s_false rfl hb5 ?_
        refine aw_exit ?_
        refine t_exit ?_
        injection h with h
        subst h
        refine r_exit ?_
        refine o_out ?_
        apply w_conv hC []
        · repeat' first | exact CO.nil | apply CO.gone | apply CO.row rfl rfl | apply CO.box rfl rfl | decide
        · rfl
        · decide
        · rfl
    refine t_norm ?_
    refine s_reg ?_
    iterate 2 refine v_op hT hC rfl rfl rfl rfl trivial ?_
    refine Vc.nil ?_
    refine aw_ret ?_
    injection h with h
    subst h
    refine ends (τ := ⟨[(4, .own 16)], [(16, some (.ints .u8 v8))]⟩) ?_ rfl ⟨rfl, trivial⟩
    apply w_conv hC [(16, 240)]
    · repeat' first | exact CO.nil | apply CO.gone | apply CO.row rfl rfl | apply CO.box rfl rfl | decide
    · rfl
    · decide
    · rfl
def impl_SquareRow_res (r : (ByteArray × Bool)) : AV := .tup [.sv (.str r.1), .sv (.bool r.2)]
def impl_SquareRow_obs (r : (ByteArray × Bool)) : Objs := []
theorem impl_SquareRow_ac {p0 : Square} {p1 : Cond} {r : (ByteArray × Bool)} (h : impl_SquareRow p0 p1 = some r) : AC Try.prog 178 [.agg [.sv (.int .i64 p0.Kind), .sv (.int .i64 p0.Mode), .sv (.int .i64 p0.Dx), .sv (.int .i64 p0.Dy), .sv (.ints .i64 p0.Levels)], .agg [.sv (.bool p1.Key), .sv (.int .i64 p1.Qp), .sv (.bool p1.Large), .sv (.bool p1.Exact)]] [] (impl_SquareRow_res r) (impl_SquareRow_obs r) := by
  refine ac_of_body hT Try.func178 rfl fun C hC => ?_
  unfold impl_SquareRow at h
  refine s_reg ?_
  iterate 4 refine v_op hT hC rfl rfl rfl rfl trivial ?_
  refine Vc.nil ?_
  refine s_in ?_
  refine live [2, 3] [32, 48] (s' := [_, _]) (o' := [_, _]) rfl rfl ?_
  obtain ⟨v1, h1, h⟩ := bnd_some h
  refine aw_to ([(24, .sv (.bool v1))], []) ?_ ?_
  · have h := h1
    refine aw_region ?_
    refine v_op hT hC rfl rfl rfl rfl trivial ?_
    obtain ⟨q2, hq, h⟩ := bnd_some h
    refine v_call hC [] rfl rfl rfl rfl Try.call76 (impl_SquareOk_ac hq) rfl (by decide) trivial rfl (.inl rfl) rfl ?_
    iterate 2 refine v_op hT hC rfl rfl rfl rfl trivial ?_
    rcases sel_some h with ⟨hb1, h⟩ | ⟨hb1, h⟩
    · refine v_on hT hC rfl rfl rfl rfl (congrArg Bool.not hb1) rfl rfl rfl trivial ?_
      obtain ⟨q3, hq, h⟩ := bnd_some h
      refine v_call_on hC [] rfl rfl rfl rfl (congrArg Bool.not hb1) rfl rfl rfl Try.call87 (impl_CondOk_ac hq) rfl (by decide) trivial rfl (.inl rfl) rfl ?_
      refine v_on hT hC rfl rfl rfl rfl (congrArg Bool.not hb1) rfl rfl rfl trivial ?_
      refine v_pick hC rfl rfl rfl (b := false) (congrArg Bool.not hb1) rfl rfl rfl trivial ?_
      refine v_op hT hC rfl rfl rfl rfl trivial ?_
      rcases sel_some h with ⟨hb2, h⟩ | ⟨hb2, h⟩
      · iterate 2 refine v_on hT hC rfl rfl rfl rfl (congrArg Bool.not hb2) rfl rfl rfl trivial ?_
        obtain ⟨q4, hq, h⟩ := bnd_some h
        refine v_call_on hC [] rfl rfl rfl rfl (congrArg Bool.not hb2) rfl rfl rfl Try.call165 (impl_Square_let_ac hq) rfl (by decide) trivial rfl (.inl rfl) rfl ?_
        refine v_on hT hC rfl rfl rfl rfl (congrArg Bool.not hb2) rfl rfl rfl trivial ?_
        refine v_pick hC rfl rfl rfl (b := false) (congrArg Bool.not hb2) rfl rfl rfl trivial ?_
        refine Vc.nil ?_
        injection h with h
        subst h
        refine m_norm ?_
        apply w_conv hC []
        · repeat' first | exact CO.nil | apply CO.gone | apply CO.row rfl rfl | apply CO.box rfl rfl | decide
        · rfl
        · decide
        · rfl
      · refine v_off hC rfl rfl rfl rfl (congrArg Bool.not hb2) rfl rfl ?_
        refine v_off hC rfl rfl rfl rfl (congrArg Bool.not hb2) rfl rfl ?_
        refine v_off hC rfl rfl rfl rfl (congrArg Bool.not hb2) rfl rfl ?_
        refine v_off hC rfl rfl rfl rfl (congrArg Bool.not hb2) rfl rfl ?_
        refine v_pick hC rfl rfl rfl (b := true) (congrArg Bool.not hb2) rfl rfl rfl trivial ?_
        refine Vc.nil ?_
        injection h with h
        subst h
        refine m_norm ?_
        apply w_conv hC []
        · repeat' first | exact CO.nil | apply CO.gone | apply CO.row rfl rfl | apply CO.box rfl rfl | decide
        · rfl
        · decide
        · rfl
    · refine v_off hC rfl rfl rfl rfl (congrArg Bool.not hb1) rfl rfl ?_
      refine v_off hC rfl rfl rfl rfl (congrArg Bool.not hb1) rfl rfl ?_
      refine v_off hC rfl rfl rfl rfl (congrArg Bool.not hb1) rfl rfl ?_
      refine v_pick hC rfl rfl rfl (b := true) (congrArg Bool.not hb1) rfl rfl rfl trivial ?_
      refine v_op hT hC rfl rfl rfl rfl trivial ?_
      refine v_off hC rfl rfl rfl rfl rfl rfl rfl ?_
      refine v_off hC rfl rfl rfl rfl rfl rfl rfl ?_
      refine v_off hC rfl rfl rfl rfl rfl rfl rfl ?_
      refine v_off hC rfl rfl rfl rfl rfl rfl rfl ?_
      refine v_op hT hC rfl rfl rfl rfl trivial ?_
      refine Vc.nil ?_
      injection h with h
      subst h
      refine m_norm ?_
      apply w_conv hC []
      · repeat' first | exact CO.nil | apply CO.gone | apply CO.row rfl rfl | apply CO.box rfl rfl | decide
      · rfl
      · decide
      · rfl
  rcases sel_some h with ⟨hb3, h⟩ | ⟨hb3, h⟩
  · refine s_true rfl hb3 ?_
    refine s_reg ?_
    iterate 2 refine v_op hT hC rfl rfl rfl rfl trivial ?_
    refine Vc.nil ?_
    refine aw_ret ?_
    refine t_ret ?_
    injection h with h
    subst h
    exact ends (Weak.refl _) rfl trivial
  · refine s_false rfl hb3 ?_
    refine aw_skip ?_
    refine t_norm ?_
    refine s_reg ?_
    iterate 2 refine v_op hT hC rfl rfl rfl rfl trivial ?_
    refine Vc.nil ?_
    refine live [2, 3, 6] [32, 48, 400] (s' := [_, _, _]) (o' := [_, _, _]) rfl rfl ?_
    obtain ⟨v5, h1, h⟩ := bnd_some h
    refine aw_to ([], [(400, some (.ints .u8 v5))]) ?_ ?_
    · have h := h1
      refine s_reg ?_
      iterate 3 refine v_op hT hC rfl rfl rfl rfl trivial ?_
      refine Vc.nil ?_
      rcases sel_some h with ⟨hb4, h⟩ | ⟨hb4, h⟩
      · refine s_true rfl hb4 ?_
        refine aw_region ?_
        iterate 3 refine v_op hT hC rfl rfl rfl rfl trivial ?_
        obtain ⟨q6, hq, h⟩ := bnd_some h
        refine v_call hC [] rfl rfl rfl rfl Try.call225 (impl_ue_ac hq) rfl (by decide) trivial rfl (.inl rfl) rfl ?_
        obtain ⟨hq, h⟩ := req_some h
        refine v_op hT hC rfl rfl rfl rfl ⟨trivial, hq⟩ ?_
        refine v_op hT hC rfl rfl rfl rfl trivial ?_
        refine Vc.nil ?_
        injection h with h
        subst h
        refine m_norm ?_
        apply w_conv hC [(400, 528)]
        · repeat' first | exact CO.nil | apply CO.gone | apply CO.row rfl rfl | apply CO.box rfl rfl | decide
        · rfl
        · decide
        · rfl
      · refine s_false rfl hb4 ?_
        refine aw_skip ?_
        injection h with h
        subst h
        refine m_norm ?_
        apply w_conv hC []
        · repeat' first | exact CO.nil | apply CO.gone | apply CO.row rfl rfl | apply CO.box rfl rfl | decide
        · rfl
        · decide
        · rfl
    refine live [2, 3, 6] [32, 48, 400] (s' := [_, _, _]) (o' := [_, _, _]) rfl rfl ?_
    obtain ⟨v7, h1, h⟩ := bnd_some h
    refine aw_to ([(2, .any), (3, .any)], [(400, some (.ints .u8 v7)), (32, none), (48, none)]) ?_ ?_
    · have h := h1
      refine s_reg ?_
      iterate 2 refine v_op hT hC rfl rfl rfl rfl trivial ?_
      refine Vc.nil ?_
      refine s_block ?_
      refine s_reg ?_
      iterate 2 refine v_op hT hC rfl rfl rfl rfl trivial ?_
      refine Vc.nil ?_
      rcases sel_some h with ⟨hb5, h⟩ | ⟨hb5, h⟩
      · refine s_true rfl hb5 ?_
        refine s_reg ?_
        iterate 2 refine v_op hT hC rfl rfl rfl rfl trivial ?_
        obtain ⟨q8, hq, h⟩ := bnd_some h
        refine v_call hC [] rfl rfl rfl rfl Try.call114 (impl_SeRow_ac hq) rfl (by decide) trivial rfl (.inl rfl) rfl ?_
        iterate 5 refine v_op hT hC rfl rfl rfl rfl trivial ?_
        refine Vc.nil ?_
        refine s_reg ?_
        iterate 2 refine v_op hT hC rfl rfl rfl rfl trivial ?_
        obtain ⟨q9, hq, h⟩ := bnd_some h
        refine v_call hC [] rfl rfl rfl rfl Try.call114 (impl_SeRow_ac hq) rfl (by decide) trivial rfl (.inl rfl) rfl ?_
        iterate 5 refine v_op hT hC rfl rfl rfl rfl trivial ?_
        refine Vc.nil ?_
        refine aw_draw hm ?_
        iterate 2 refine v_op hT hC rfl rfl rfl rfl trivial ?_
        obtain ⟨hq, h⟩ := req_some h
        refine v_op hT hC rfl rfl rfl rfl ⟨trivial, hq⟩ ?_
        refine v_op hT hC rfl rfl rfl rfl trivial ?_
        obtain ⟨hq, h⟩ := req_some h
        refine v_op hT hC rfl rfl rfl rfl ⟨trivial, hq⟩ ?_
        iterate 3 refine v_op hT hC rfl rfl rfl rfl trivial ?_
        obtain ⟨q10, hq, h⟩ := bnd_some h
        refine v_call hC [(16, 928)] rfl rfl rfl rfl Try.call249 (impl_levelsRow_ac hq) rfl (by decide) trivial rfl (.inl rfl) rfl ?_
        obtain ⟨hq, h⟩ := req_some h
        refine v_op hT hC rfl rfl rfl rfl ⟨trivial, hq⟩ ?_
        refine v_op hT hC rfl rfl rfl rfl trivial ?_
        refine Vc.nil ⟨by kernel_rfl, ?_⟩
        refine b_norm ?_
        injection h with h
        subst h
        refine m_norm ?_
        apply w_conv hC [(400, 944)]
        · repeat' first | exact CO.nil | apply CO.gone | apply CO.row rfl rfl | apply CO.box rfl rfl | decide
        · rfl
        · decide
        · rfl
      · refine s_false rfl hb5 ?_
        refine s_reg ?_
        iterate 2 refine v_op hT hC rfl rfl rfl rfl trivial ?_
        refine Vc.nil ?_
        rcases sel_some h with ⟨hb6, h⟩ | ⟨hb6, h⟩
        · refine s_true rfl hb6 ?_
          refine aw_draw hm ?_
          iterate 3 refine v_op hT hC rfl rfl rfl rfl trivial ?_
          obtain ⟨q11, hq, h⟩ := bnd_some h
          refine v_call hC [] rfl rfl rfl rfl Try.call225 (impl_ue_ac hq) rfl (by decide) trivial rfl (.inl rfl) rfl ?_
          obtain ⟨hq, h⟩ := req_some h
          refine v_op hT hC rfl rfl rfl rfl ⟨trivial, hq⟩ ?_
          iterate 3 refine v_op hT hC rfl rfl rfl rfl trivial ?_
          obtain ⟨q12, hq, h⟩ := bnd_some h
          refine v_call hC [(16, 1120)] rfl rfl rfl rfl Try.call249 (impl_levelsRow_ac hq) rfl (by decide) trivial rfl (.inl rfl) rfl ?_
          obtain ⟨hq, h⟩ := req_some h
          refine v_op hT hC rfl rfl rfl rfl ⟨trivial, hq⟩ ?_
          refine v_op hT hC rfl rfl rfl rfl trivial ?_
          refine Vc.nil ⟨by kernel_rfl, ?_⟩
          refine b_norm ?_
          injection h with h
          subst h
          refine m_norm ?_
          apply w_conv hC [(400, 1136)]
          · repeat' first | exact CO.nil | apply CO.gone | apply CO.row rfl rfl | apply CO.box rfl rfl | decide
          · rfl
          · decide
          · rfl
        · refine s_false rfl hb6 ?_
          refine aw_skip ?_
          refine b_norm ?_
          injection h with h
          subst h
          refine m_norm ?_
          apply w_conv hC []
          · repeat' first | exact CO.nil | apply CO.gone | apply CO.row rfl rfl | apply CO.box rfl rfl | decide
          · rfl
          · decide
          · rfl
    refine s_reg ?_
    iterate 4 refine v_op hT hC rfl rfl rfl rfl trivial ?_
    refine Vc.nil ?_
    refine aw_ret ?_
    injection h with h
    subst h
    exact ends (Weak.refl _) rfl trivial
def impl_TileRow_res (r : (ByteArray × Bool)) : AV := .tup [.sv (.str r.1), .sv (.bool r.2)]
def impl_TileRow_obs (r : (ByteArray × Bool)) : Objs := []
theorem impl_TileRow_ac {p0 : (List Square)} {p1 : Cond} {r : (ByteArray × Bool)} (h : impl_TileRow p0 p1 = some r) : AC Try.prog 88 [.sv (cSquare.sv p0), .agg [.sv (.bool p1.Key), .sv (.int .i64 p1.Qp), .sv (.bool p1.Large), .sv (.bool p1.Exact)]] [] (impl_TileRow_res r) (impl_TileRow_obs r) := by
  refine ac_of_body hT Try.func88 rfl fun C hC => ?_
  unfold impl_TileRow at h
  refine s_reg ?_
  iterate 3 refine v_op hT hC rfl rfl rfl rfl trivial ?_
  refine Vc.nil ?_
  refine s_in ?_
  refine s_reg ?_
  iterate 2 refine v_op hT hC rfl rfl rfl rfl trivial ?_
  obtain ⟨q1, hq, h⟩ := bnd_some h
  refine v_call hC [] rfl rfl rfl rfl Try.call102 (impl_within_ac hq) rfl (by decide) trivial rfl (.inl rfl) rfl ?_
  refine v_op hT hC rfl rfl rfl rfl trivial ?_
  refine Vc.nil ?_
  rcases sel_some h with ⟨hb1, h⟩ | ⟨hb1, h⟩
  · refine s_true rfl hb1 ?_
    refine s_reg ?_
    iterate 2 refine v_op hT hC rfl rfl rfl rfl trivial ?_
    refine Vc.nil ?_
    refine aw_ret ?_
    refine t_ret ?_
    injection h with h
    subst h
    exact ends (Weak.refl _) rfl trivial
  · refine s_false rfl hb1 ?_
    refine aw_skip ?_
    refine t_norm ?_
    refine s_reg ?_
    iterate 2 refine v_op hT hC rfl rfl rfl rfl trivial ?_
    refine Vc.nil ?_
    refine s_in ?_
    refine s_reg ?_
    iterate 3 refine v_op hT hC rfl rfl rfl rfl trivial ?_
    refine Vc.nil ?_
    refine live [3, 6, 16, 17, 18] [48, 240] (s' := [_, _, _, _, _]) (o' := [_, _]) rfl rfl ?_
    obtain ⟨o9, hl, h⟩ := bnd_some h
    refine s_loopR (fun v4 => ([(18, .sv (.int .i64 v4.1))], [(240, some (.ints .u8 v4.2))])) (fun v7 => ([(3, .any), (16, .any), (17, .any), (18, .any)], [(240, some (.ints .u8 v7)), (48, none)])) (fun r => EndsA C T Try.f88.results.toList (impl_TileRow_res r) (impl_TileRow_obs r)) hl ?_ ?_ ?_ ?_
    · try dsimp only
      apply w_conv hC []
      · repeat' first | exact CO.nil | apply CO.gone | apply CO.row rfl rfl | apply CO.box rfl rfl | decide
      · rfl
      · decide
      · rfl
    · intro v4 s hs
      have h := hs
      unfold impl_TileRow_l2 at h
      refine s_reg ?_
      refine v_op hT hC rfl rfl rfl rfl trivial ?_
      refine Vc.nil ?_
      refine s_in ?_
      rcases sel_some h with ⟨hb6, h⟩ | ⟨hb6, h⟩
      · refine s_true rfl hb6 ?_
        refine aw_skip ?_
        refine t_norm ?_
        refine s_in ?_
        refine s_block ?_
        refine s_reg ?_
        obtain ⟨hq, h⟩ := req_some h
        refine v_op hT hC rfl rfl rfl rfl hq ?_
        iterate 3 refine v_op hT hC rfl rfl rfl rfl trivial ?_
        refine Vc.nil ?_
        refine s_reg ?_
        iterate 2 refine v_op hT hC rfl rfl rfl rfl trivial ?_
        obtain ⟨q8, hq, h⟩ := bnd_some h
        refine v_call hC [] rfl rfl rfl rfl Try.call178 (impl_SquareRow_ac hq) rfl (by decide) trivial rfl (.inl rfl) rfl ?_
        iterate 5 refine v_op hT hC rfl rfl rfl rfl trivial ?_
        refine Vc.nil ?_
        refine s_in ?_
        refine s_reg ?_
        iterate 2 refine v_op hT hC rfl rfl rfl rfl trivial ?_
        refine Vc.nil ?_
        rcases sel_some h with ⟨hb7, h⟩ | ⟨hb7, h⟩
        · refine s_true rfl hb7 ?_
          refine s_reg ?_
          iterate 2 refine v_op hT hC rfl rfl rfl rfl trivial ?_
          refine Vc.nil ?_
          refine aw_ret ?_
          refine t_ret ?_
          refine b_ret ?_
          refine t_ret ?_
          injection h with h
          subst h
          refine r_ret ?_
          refine o_ret ?_
          exact ends (Weak.refl _) rfl trivial
        · refine s_false rfl hb7 ?_
          refine aw_skip ?_
          refine t_norm ?_
          refine aw_region ?_
          iterate 2 refine v_op hT hC rfl rfl rfl rfl trivial ?_
          obtain ⟨hq, h⟩ := req_some h
          refine v_op hT hC rfl rfl rfl rfl ⟨trivial, hq⟩ ?_
          refine v_op hT hC rfl rfl rfl rfl trivial ?_
          refine Vc.nil ?_
          refine b_norm ?_
          refine t_norm ?_
          refine aw_region ?_
          iterate 2 refine v_op hT hC rfl rfl rfl rfl trivial ?_
          refine Vc.nil ?_
          injection h with h
          subst h
          refine r_go ?_
          try dsimp only
          apply w_conv hC [(240, 512)]
          · repeat' first | exact CO.nil | apply CO.gone | apply CO.row rfl rfl | apply CO.box rfl rfl | decide
          · rfl
          · decide
          · rfl
      · refine s_false rfl hb6 ?_
        refine aw_exit ?_
        refine t_exit ?_
        injection h with h
        subst h
        refine r_exit ?_
        refine o_both ?_
        apply w_conv hC []
        · repeat' first | exact CO.nil | apply CO.gone | apply CO.row rfl rfl | apply CO.box rfl rfl | decide
        · rfl
        · decide
        · rfl
    · intro v7 e
      subst e
      refine t_norm ?_
      refine s_reg ?_
      iterate 4 refine v_op hT hC rfl rfl rfl rfl trivial ?_
      refine Vc.nil ?_
      refine aw_ret ?_
      injection h with h
      subst h
      exact ends (Weak.refl _) rfl trivial
    · intro r' σ' e hE
      subst e
      injection h with h
      subst h
      refine t_ret ?_
      exact hE
def impl_SentSize_res (r : Int) : AV := .sv (.int .i64 r)
def impl_SentSize_obs (r : Int) : Objs := []
theorem impl_SentSize_ac {p0 : (List Square)} {p1 : Cond} {r : Int} (h : impl_SentSize p0 p1 = some r) : AC Try.prog 51 [.sv (cSquare.sv p0), .agg [.sv (.bool p1.Key), .sv (.int .i64 p1.Qp), .sv (.bool p1.Large), .sv (.bool p1.Exact)]] [] (impl_SentSize_res r) (impl_SentSize_obs r) := by
  refine ac_of_body hT Try.func51 rfl fun C hC => ?_
  unfold impl_SentSize at h
  refine s_reg ?_
  iterate 2 refine v_op hT hC rfl rfl rfl rfl trivial ?_
  refine Vc.nil ?_
  refine s_reg ?_
  iterate 2 refine v_op hT hC rfl rfl rfl rfl trivial ?_
  obtain ⟨q1, hq, h⟩ := bnd_some h
  refine v_call hC [] rfl rfl rfl rfl Try.call88 (impl_TileRow_ac hq) rfl (by decide) trivial rfl (.inl rfl) rfl ?_
  iterate 5 refine v_op hT hC rfl rfl rfl rfl trivial ?_
  refine Vc.nil ?_
  refine s_reg ?_
  iterate 3 refine v_op hT hC rfl rfl rfl rfl trivial ?_
  refine Vc.nil ?_
  refine aw_ret ?_
  injection h with h
  subst h
  exact ends (Weak.refl _) rfl trivial
def laws_eqSquare_res (r : Bool) : AV := .sv (.bool r)
def laws_eqSquare_obs (r : Bool) : Objs := []
theorem laws_eqSquare_ac {p0 : Square} {p1 : Square} {r : Bool} (h : laws_eqSquare p0 p1 = some r) : AC Try.prog 135 [.agg [.sv (.int .i64 p0.Kind), .sv (.int .i64 p0.Mode), .sv (.int .i64 p0.Dx), .sv (.int .i64 p0.Dy), .sv (.ints .i64 p0.Levels)], .agg [.sv (.int .i64 p1.Kind), .sv (.int .i64 p1.Mode), .sv (.int .i64 p1.Dx), .sv (.int .i64 p1.Dy), .sv (.ints .i64 p1.Levels)]] [] (laws_eqSquare_res r) (laws_eqSquare_obs r) := by
  refine ac_of_body hT Try.func135 rfl fun C hC => ?_
  unfold laws_eqSquare at h
  refine s_reg ?_
  iterate 3 refine v_op hT hC rfl rfl rfl rfl trivial ?_
  refine Vc.nil ?_
  refine s_in ?_
  refine s_reg ?_
  iterate 5 refine v_op hT hC rfl rfl rfl rfl trivial ?_
  refine Vc.nil ?_
  rcases sel_some h with ⟨hb1, h⟩ | ⟨hb1, h⟩
  · refine s_true rfl hb1 ?_
    refine s_reg ?_
    refine v_op hT hC rfl rfl rfl rfl trivial ?_
    refine Vc.nil ?_
    refine aw_ret ?_
    refine t_ret ?_
    injection h with h
    subst h
    exact ends (Weak.refl _) rfl trivial
  · refine s_false rfl hb1 ?_
    refine aw_skip ?_
    refine t_norm ?_
    refine s_in ?_
    refine s_reg ?_
    iterate 5 refine v_op hT hC rfl rfl rfl rfl trivial ?_
    refine Vc.nil ?_
    rcases sel_some h with ⟨hb2, h⟩ | ⟨hb2, h⟩
    · refine s_true rfl hb2 ?_
      refine s_reg ?_
      refine v_op hT hC rfl rfl rfl rfl trivial ?_
      refine Vc.nil ?_
      refine aw_ret ?_
      refine t_ret ?_
      injection h with h
      subst h
      exact ends (Weak.refl _) rfl trivial
    · refine s_false rfl hb2 ?_
      refine aw_skip ?_
      refine t_norm ?_
      refine s_in ?_
      refine s_reg ?_
      iterate 5 refine v_op hT hC rfl rfl rfl rfl trivial ?_
      refine Vc.nil ?_
      rcases sel_some h with ⟨hb3, h⟩ | ⟨hb3, h⟩
      · refine s_true rfl hb3 ?_
        refine s_reg ?_
        refine v_op hT hC rfl rfl rfl rfl trivial ?_
        refine Vc.nil ?_
        refine aw_ret ?_
        refine t_ret ?_
        injection h with h
        subst h
        exact ends (Weak.refl _) rfl trivial
      · refine s_false rfl hb3 ?_
        refine aw_skip ?_
        refine t_norm ?_
        refine s_in ?_
        refine s_reg ?_
        iterate 5 refine v_op hT hC rfl rfl rfl rfl trivial ?_
        refine Vc.nil ?_
        rcases sel_some h with ⟨hb4, h⟩ | ⟨hb4, h⟩
        · refine s_true rfl hb4 ?_
          refine s_reg ?_
          refine v_op hT hC rfl rfl rfl rfl trivial ?_
          refine Vc.nil ?_
          refine aw_ret ?_
          refine t_ret ?_
          injection h with h
          subst h
          exact ends (Weak.refl _) rfl trivial
        · refine s_false rfl hb4 ?_
          refine aw_skip ?_
          refine t_norm ?_
          refine s_in ?_
          refine s_reg ?_
          iterate 4 refine v_op hT hC rfl rfl rfl rfl trivial ?_
          obtain ⟨q1, hq, h⟩ := bnd_some h
          refine v_call hC [] rfl rfl rfl rfl Try.call203 (laws_eqIntS_ac hq) rfl (by decide) trivial rfl (.inl rfl) rfl ?_
          refine v_op hT hC rfl rfl rfl rfl trivial ?_
          refine Vc.nil ?_
          rcases sel_some h with ⟨hb5, h⟩ | ⟨hb5, h⟩
          · refine s_true rfl hb5 ?_
            refine s_reg ?_
            refine v_op hT hC rfl rfl rfl rfl trivial ?_
            refine Vc.nil ?_
            refine aw_ret ?_
            refine t_ret ?_
            injection h with h
            subst h
            exact ends (Weak.refl _) rfl trivial
          · refine s_false rfl hb5 ?_
            refine aw_skip ?_
            refine t_norm ?_
            refine s_reg ?_
            refine v_op hT hC rfl rfl rfl rfl trivial ?_
            refine Vc.nil ?_
            refine aw_ret ?_
            injection h with h
            subst h
            exact ends (Weak.refl _) rfl trivial
def laws_eqSquareS_res (r : Bool) : AV := .sv (.bool r)
def laws_eqSquareS_obs (r : Bool) : Objs := []
theorem laws_eqSquareS_ac {p0 : (List Square)} {p1 : (List Square)} {r : Bool} (h : laws_eqSquareS p0 p1 = some r) : AC Try.prog 52 [.sv (cSquare.sv p0), .sv (cSquare.sv p1)] [] (laws_eqSquareS_res r) (laws_eqSquareS_obs r) := by
  refine ac_of_body hT Try.func52 rfl fun C hC => ?_
  unfold laws_eqSquareS at h
  refine s_reg ?_
  refine v_op hT hC rfl rfl rfl rfl trivial ?_
  refine Vc.nil ?_
  refine s_in ?_
  refine s_reg ?_
  iterate 5 refine v_op hT hC rfl rfl rfl rfl trivial ?_
  refine Vc.nil ?_
  rcases sel_some h with ⟨hb1, h⟩ | ⟨hb1, h⟩
  · refine s_true rfl hb1 ?_
    refine s_reg ?_
    refine v_op hT hC rfl rfl rfl rfl trivial ?_
    refine Vc.nil ?_
    refine aw_ret ?_
    refine t_ret ?_
    injection h with h
    subst h
    exact ends (Weak.refl _) rfl trivial
  · refine s_false rfl hb1 ?_
    refine aw_skip ?_
    refine t_norm ?_
    refine s_in ?_
    refine s_reg ?_
    refine v_op hT hC rfl rfl rfl rfl trivial ?_
    refine Vc.nil ?_
    refine live [0, 1, 5] [] (s' := [_, _, _]) (o' := []) rfl rfl ?_
    obtain ⟨o8, hl, h⟩ := bnd_some h
    refine s_loopR (fun v3 => ([(5, .sv (.int .i64 v3))], [])) (fun v6 => ([(0, .any), (1, .any), (5, .any)], [])) (fun r => EndsA C T Try.f52.results.toList (laws_eqSquareS_res r) (laws_eqSquareS_obs r)) hl ?_ ?_ ?_ ?_
    · apply w_conv hC []
      · repeat' first | exact CO.nil | apply CO.gone | apply CO.row rfl rfl | apply CO.box rfl rfl | decide
      · rfl
      · decide
      · rfl
    · intro v3 s hs
      have h := hs
      unfold laws_eqSquareS_l2 at h
      refine s_in ?_
      refine s_reg ?_
      iterate 4 refine v_op hT hC rfl rfl rfl rfl trivial ?_
      refine Vc.nil ?_
      rcases sel_some h with ⟨hb6, h⟩ | ⟨hb6, h⟩
      · refine s_true rfl hb6 ?_
        refine aw_skip ?_
        refine t_norm ?_
        refine s_in ?_
        refine s_block ?_
        refine s_draw hm ?_
        iterate 2 refine v_op hT hC rfl rfl rfl rfl trivial ?_
        obtain ⟨hq, h⟩ := req_some h
        refine v_op hT hC rfl rfl rfl rfl hq ?_
        iterate 3 refine v_op hT hC rfl rfl rfl rfl trivial ?_
        obtain ⟨hq, h⟩ := req_some h
        refine v_op hT hC rfl rfl rfl rfl hq ?_
        refine v_op hT hC rfl rfl rfl rfl trivial ?_
        obtain ⟨q7, hq, h⟩ := bnd_some h
        refine v_call hC [] rfl rfl rfl rfl Try.call135 (laws_eqSquare_ac hq) rfl (by decide) trivial rfl (.inl rfl) rfl ?_
        refine v_op hT hC rfl rfl rfl rfl trivial ?_
        refine Vc.nil ⟨by kernel_rfl, ?_⟩
        rcases sel_some h with ⟨hb7, h⟩ | ⟨hb7, h⟩
        · refine s_true rfl hb7 ?_
          refine s_reg ?_
          refine v_op hT hC rfl rfl rfl rfl trivial ?_
          refine Vc.nil ?_
          refine aw_ret ?_
          refine b_ret ?_
          refine t_ret ?_
          injection h with h
          subst h
          refine r_ret ?_
          refine o_ret ?_
          exact ends (Weak.refl _) rfl trivial
        · refine s_false rfl hb7 ?_
          refine aw_skip ?_
          refine b_norm ?_
          refine t_norm ?_
          refine aw_region ?_
          iterate 3 refine v_op hT hC rfl rfl rfl rfl trivial ?_
          refine Vc.nil ?_
          injection h with h
          subst h
          refine r_go ?_
          apply w_conv hC []
          · repeat' first | exact CO.nil | apply CO.gone | apply CO.row rfl rfl | apply CO.box rfl rfl | decide
          · rfl
          · decide
          · rfl
      · refine s_false rfl hb6 ?_
        refine aw_exit ?_
        refine t_exit ?_
        injection h with h
        subst h
        refine r_exit ?_
        refine o_both ?_
        apply w_conv hC []
        · repeat' first | exact CO.nil | apply CO.gone | apply CO.row rfl rfl | apply CO.box rfl rfl | decide
        · rfl
        · decide
        · rfl
    · intro v6 e
      subst e
      refine t_norm ?_
      refine s_reg ?_
      refine v_op hT hC rfl rfl rfl rfl trivial ?_
      refine Vc.nil ?_
      refine aw_ret ?_
      injection h with h
      subst h
      exact ends (Weak.refl _) rfl trivial
    · intro r' σ' e hE
      subst e
      injection h with h
      subst h
      refine t_ret ?_
      exact hE
def laws_FnExactSentSize_res (r : Bool) : AV := .sv (.bool r)
def laws_FnExactSentSize_obs (r : Bool) : Objs := []
theorem laws_FnExactSentSize_ac {p0 : (List Square)} {p1 : Cond} {r : Bool} (h : laws_FnExactSentSize p0 p1 = some r) : AC Try.prog 7 [.sv (cSquare.sv p0), .agg [.sv (.bool p1.Key), .sv (.int .i64 p1.Qp), .sv (.bool p1.Large), .sv (.bool p1.Exact)]] [] (laws_FnExactSentSize_res r) (laws_FnExactSentSize_obs r) := by
  refine ac_of_body hT Try.func7 rfl fun C hC => ?_
  unfold laws_FnExactSentSize at h
  refine s_reg ?_
  iterate 2 refine v_op hT hC rfl rfl rfl rfl trivial ?_
  refine Vc.nil ?_
  refine s_reg ?_
  refine v_op hT hC rfl rfl rfl rfl trivial ?_
  refine Vc.nil ?_
  refine s_reg ?_
  iterate 2 refine v_op hT hC rfl rfl rfl rfl trivial ?_
  obtain ⟨q1, hq, h⟩ := bnd_some h
  refine v_call hC [] rfl rfl rfl rfl Try.call47 (laws_szSquareS_ac hq) rfl (by decide) trivial rfl (.inl rfl) rfl ?_
  refine v_op hT hC rfl rfl rfl rfl trivial ?_
  refine Vc.nil ?_
  refine s_in ?_
  refine s_reg ?_
  iterate 2 refine v_op hT hC rfl rfl rfl rfl trivial ?_
  refine Vc.nil ?_
  rcases sel_some h with ⟨hb1, h⟩ | ⟨hb1, h⟩
  · refine s_true rfl hb1 ?_
    refine s_reg ?_
    refine v_op hT hC rfl rfl rfl rfl trivial ?_
    refine Vc.nil ?_
    refine aw_ret ?_
    refine t_ret ?_
    injection h with h
    subst h
    exact ends (Weak.refl _) rfl trivial
  · refine s_false rfl hb1 ?_
    refine aw_skip ?_
    refine t_norm ?_
    refine s_draw hm ?_
    refine v_op hT hC rfl rfl rfl rfl trivial ?_
    obtain ⟨q2, hq, h⟩ := bnd_some h
    refine v_call hC [(16, 240)] rfl rfl rfl rfl Try.call49 (laws_toSquareS_ac hq) rfl (by decide) trivial rfl (.inl rfl) rfl ?_
    refine v_op hT hC rfl rfl rfl rfl trivial ?_
    obtain ⟨q3, hq, h⟩ := bnd_some h
    refine v_call hC [] rfl rfl rfl rfl Try.call50 (laws_toCond_ac hq) rfl (by decide) trivial rfl (.inl rfl) rfl ?_
    obtain ⟨q4, hq, h⟩ := bnd_some h
    refine v_call hC [] rfl rfl rfl rfl Try.call48 (spec_SentSize_ac hq) rfl (by decide) trivial rfl (.inr ⟨rfl, trivial⟩) rfl ?_
    refine v_op hT hC rfl rfl rfl rfl trivial ?_
    refine Vc.nil ⟨by kernel_rfl, ?_⟩
    refine s_reg ?_
    refine v_op hT hC rfl rfl rfl rfl trivial ?_
    obtain ⟨q5, hq, h⟩ := bnd_some h
    refine v_call hC [(16, 320)] rfl rfl rfl rfl Try.call49 (laws_toSquareS_ac hq) rfl (by decide) trivial rfl (.inl rfl) rfl ?_
    refine v_op hT hC rfl rfl rfl rfl trivial ?_
    refine Vc.nil ?_
    refine s_reg ?_
    iterate 2 refine v_op hT hC rfl rfl rfl rfl trivial ?_
    obtain ⟨q6, hq, h⟩ := bnd_some h
    refine v_call hC [] rfl rfl rfl rfl Try.call50 (laws_toCond_ac hq) rfl (by decide) trivial rfl (.inl rfl) rfl ?_
    obtain ⟨q7, hq, h⟩ := bnd_some h
    refine v_call hC [] rfl rfl rfl rfl Try.call51 (impl_SentSize_ac hq) rfl (by decide) trivial rfl (.inr ⟨rfl, trivial⟩) rfl ?_
    refine v_op hT hC rfl rfl rfl rfl trivial ?_
    refine Vc.nil ?_
    refine s_in ?_
    refine s_reg ?_
    iterate 3 refine v_op hT hC rfl rfl rfl rfl trivial ?_
    refine Vc.nil ?_
    rcases sel_some h with ⟨hb2, h⟩ | ⟨hb2, h⟩
    · refine s_true rfl hb2 ?_
      refine s_reg ?_
      refine v_op hT hC rfl rfl rfl rfl trivial ?_
      refine Vc.nil ?_
      refine aw_ret ?_
      refine t_ret ?_
      injection h with h
      subst h
      exact ends (Weak.refl _) rfl trivial
    · refine s_false rfl hb2 ?_
      refine aw_skip ?_
      refine t_norm ?_
      refine s_in ?_
      refine s_reg ?_
      iterate 2 refine v_op hT hC rfl rfl rfl rfl trivial ?_
      obtain ⟨q8, hq, h⟩ := bnd_some h
      refine v_call hC [(16, 480)] rfl rfl rfl rfl Try.call49 (laws_toSquareS_ac hq) rfl (by decide) trivial rfl (.inl rfl) rfl ?_
      obtain ⟨q9, hq, h⟩ := bnd_some h
      refine v_call hC [] rfl rfl rfl rfl Try.call52 (laws_eqSquareS_ac hq) rfl (by decide) trivial rfl (.inr ⟨rfl, trivial⟩) rfl ?_
      refine v_op hT hC rfl rfl rfl rfl trivial ?_
      refine Vc.nil ?_
      rcases sel_some h with ⟨hb3, h⟩ | ⟨hb3, h⟩
      · refine s_true rfl hb3 ?_
        refine s_reg ?_
        refine v_op hT hC rfl rfl rfl rfl trivial ?_
        refine Vc.nil ?_
        refine aw_ret ?_
        refine t_ret ?_
        injection h with h
        subst h
        exact ends (Weak.refl _) rfl trivial
      · refine s_false rfl hb3 ?_
        refine aw_skip ?_
        refine t_norm ?_
        refine s_reg ?_
        refine v_op hT hC rfl rfl rfl rfl trivial ?_
        refine Vc.nil ?_
        refine aw_ret ?_
        injection h with h
        subst h
        exact ends (Weak.refl _) rfl trivial
end
end Go.Proofs.Ytplmeeookgefnaa.A
