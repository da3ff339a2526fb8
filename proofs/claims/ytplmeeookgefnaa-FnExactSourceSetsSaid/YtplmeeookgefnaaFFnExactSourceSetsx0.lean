/- Contracts of the functions that the law FnExactSourceSets reaches, part 0: each comes to what its pure function tells. Written by a program of this session. Conditions: as each statement tells. -/
import Derived.Test.YtplmeeookgefnaaBFnExactSourceSets
namespace Go.Proofs.Ytplmeeookgefnaa.A
open Go Go.Proofs Go.Proofs.YtplmeeookgefnaaAL Go.RowKit
set_option linter.unusedVariables false
set_option linter.unusedSimpArgs false
set_option maxRecDepth 100000
set_option maxHeartbeats 2000000
noncomputable section
def impl_within_res (r : Bool) : AV := .sv (.bool r)
def impl_within_obs (r : Bool) : Objs := []
theorem impl_within_ac {p0 : Int} {p1 : Int} {p2 : Int} {r : Bool} (h : impl_within p0 p1 p2 = some r) : AC Try.prog 102 [.sv (.int .i64 p0), .sv (.int .i64 p1), .sv (.int .i64 p2)] [] (impl_within_res r) (impl_within_obs r) := by
  refine ac_of_body hT Try.func102 rfl fun C hC => ?_
  unfold impl_within at h
  refine s_reg ?_
  refine v_op hT hC rfl rfl rfl rfl trivial ?_
  refine Vc.nil ?_
  refine live [0, 1, 2, 6] [] (s' := [_, _, _, _]) (o' := []) rfl rfl ?_
  obtain ⟨v1, h1, h⟩ := bnd_some h
  refine aw_to ([(6, .sv (.bool v1)), (0, .any), (1, .any), (2, .any)], []) ?_ ?_
  · have h := h1
    refine aw_region ?_
    iterate 4 refine v_op hT hC rfl rfl rfl rfl trivial ?_
    rcases sel_some h with ⟨hb1, h⟩ | ⟨hb1, h⟩
    · iterate 3 refine v_on hT hC rfl rfl rfl rfl hb1 rfl rfl rfl trivial ?_
      refine v_pick hC rfl rfl rfl (b := true) hb1 rfl rfl rfl trivial ?_
      refine v_op hT hC rfl rfl rfl rfl trivial ?_
      refine Vc.nil ?_
      injection h with h
      subst h
      refine m_norm ?_
      apply w_conv hC []
      · repeat' first | exact CO.nil | apply CO.gone | apply CO.row rfl rfl | apply CO.box rfl rfl | decide
      · rfl
      · decide
      · rfl
    · refine v_off hC rfl rfl rfl rfl hb1 rfl rfl ?_
      refine v_off hC rfl rfl rfl rfl hb1 rfl rfl ?_
      refine v_off hC rfl rfl rfl rfl hb1 rfl rfl ?_
      refine v_pick hC rfl rfl rfl (b := false) hb1 rfl rfl rfl trivial ?_
      refine v_op hT hC rfl rfl rfl rfl trivial ?_
      refine Vc.nil ?_
      injection h with h
      subst h
      refine m_norm ?_
      apply w_conv hC []
      · repeat' first | exact CO.nil | apply CO.gone | apply CO.row rfl rfl | apply CO.box rfl rfl | decide
      · rfl
      · decide
      · rfl
  refine aw_ret ?_
  injection h with h
  subst h
  exact ends (Weak.refl _) rfl trivial
def impl_RateOk_res (r : Bool) : AV := .sv (.bool r)
def impl_RateOk_obs (r : Bool) : Objs := []
theorem impl_RateOk_ac {p0 : Rate} {r : Bool} (h : impl_RateOk p0 = some r) : AC Try.prog 23 [.agg [.sv (.int .i64 p0.Qp), .sv (.int .i64 p0.Target), .sv (.int .i64 p0.Debt)]] [] (impl_RateOk_res r) (impl_RateOk_obs r) := by
  refine ac_of_body hT Try.func23 rfl fun C hC => ?_
  unfold impl_RateOk at h
  refine s_reg ?_
  iterate 2 refine v_op hT hC rfl rfl rfl rfl trivial ?_
  refine Vc.nil ?_
  refine live [1, 2] [16] (s' := [_, _]) (o' := [_]) rfl rfl ?_
  obtain ⟨v1, h1, h⟩ := bnd_some h
  refine aw_to ([(2, .sv (.bool v1)), (1, .any)], [(16, none)]) ?_ ?_
  · have h := h1
    refine aw_region ?_
    iterate 2 refine v_op hT hC rfl rfl rfl rfl trivial ?_
    obtain ⟨q2, hq, h⟩ := bnd_some h
    refine v_call hC [] rfl rfl rfl rfl Try.call102 (impl_within_ac hq) rfl (by decide) trivial rfl (.inl rfl) rfl ?_
    refine v_op hT hC rfl rfl rfl rfl trivial ?_
    rcases sel_some h with ⟨hb1, h⟩ | ⟨hb1, h⟩
    · iterate 2 refine v_on hT hC rfl rfl rfl rfl hb1 rfl rfl rfl trivial ?_
      obtain ⟨q3, hq, h⟩ := bnd_some h
      refine v_call_on hC [] rfl rfl rfl rfl hb1 rfl rfl rfl Try.call102 (impl_within_ac hq) rfl (by decide) trivial rfl (.inl rfl) rfl ?_
      refine v_pick hC rfl rfl rfl (b := true) hb1 rfl rfl rfl trivial ?_
      refine v_op hT hC rfl rfl rfl rfl trivial ?_
      rcases sel_some h with ⟨hb2, h⟩ | ⟨hb2, h⟩
      · iterate 8 refine v_on hT hC rfl rfl rfl rfl hb2 rfl rfl rfl trivial ?_
        obtain ⟨q4, hq, h⟩ := bnd_some h
        refine v_call_on hC [] rfl rfl rfl rfl hb2 rfl rfl rfl Try.call102 (impl_within_ac hq) rfl (by decide) trivial rfl (.inl rfl) rfl ?_
        refine v_pick hC rfl rfl rfl (b := true) hb2 rfl rfl rfl trivial ?_
        refine v_op hT hC rfl rfl rfl rfl trivial ?_
        refine Vc.nil ?_
        injection h with h
        subst h
        refine m_norm ?_
        apply w_conv hC []
        · repeat' first | exact CO.nil | apply CO.gone | apply CO.row rfl rfl | apply CO.box rfl rfl | decide
        · rfl
        · decide
        · rfl
      · refine v_off hC rfl rfl rfl rfl hb2 rfl rfl ?_
        refine v_off hC rfl rfl rfl rfl hb2 rfl rfl ?_
        refine v_off hC rfl rfl rfl rfl hb2 rfl rfl ?_
        refine v_off hC rfl rfl rfl rfl hb2 rfl rfl ?_
        refine v_off hC rfl rfl rfl rfl hb2 rfl rfl ?_
        refine v_off hC rfl rfl rfl rfl hb2 rfl rfl ?_
        refine v_off hC rfl rfl rfl rfl hb2 rfl rfl ?_
        refine v_off hC rfl rfl rfl rfl hb2 rfl rfl ?_
        refine v_off hC rfl rfl rfl rfl hb2 rfl rfl ?_
        refine v_pick hC rfl rfl rfl (b := false) hb2 rfl rfl rfl trivial ?_
        refine v_op hT hC rfl rfl rfl rfl trivial ?_
        refine Vc.nil ?_
        injection h with h
        subst h
        refine m_norm ?_
        apply w_conv hC []
        · repeat' first | exact CO.nil | apply CO.gone | apply CO.row rfl rfl | apply CO.box rfl rfl | decide
        · rfl
        · decide
        · rfl
    · refine v_off hC rfl rfl rfl rfl hb1 rfl rfl ?_
      refine v_off hC rfl rfl rfl rfl hb1 rfl rfl ?_
      refine v_off hC rfl rfl rfl rfl hb1 rfl rfl ?_
      refine v_pick hC rfl rfl rfl (b := false) hb1 rfl rfl rfl trivial ?_
      refine v_op hT hC rfl rfl rfl rfl trivial ?_
      refine v_off hC rfl rfl rfl rfl rfl rfl rfl ?_
      refine v_off hC rfl rfl rfl rfl rfl rfl rfl ?_
      refine v_off hC rfl rfl rfl rfl rfl rfl rfl ?_
      refine v_off hC rfl rfl rfl rfl rfl rfl rfl ?_
      refine v_off hC rfl rfl rfl rfl rfl rfl rfl ?_
      refine v_off hC rfl rfl rfl rfl rfl rfl rfl ?_
      refine v_off hC rfl rfl rfl rfl rfl rfl rfl ?_
      refine v_off hC rfl rfl rfl rfl rfl rfl rfl ?_
      refine v_off hC rfl rfl rfl rfl rfl rfl rfl ?_
      iterate 2 refine v_op hT hC rfl rfl rfl rfl trivial ?_
      refine Vc.nil ?_
      injection h with h
      subst h
      refine m_norm ?_
      apply w_conv hC []
      · repeat' first | exact CO.nil | apply CO.gone | apply CO.row rfl rfl | apply CO.box rfl rfl | decide
      · rfl
      · decide
      · rfl
  refine aw_ret ?_
  injection h with h
  subst h
  exact ends (Weak.refl _) rfl trivial
def spec_l01In_res (r : Bool) : AV := .sv (.bool r)
def spec_l01In_obs (r : Bool) : Objs := []
theorem spec_l01In_ac {p0 : Int} {p1 : Int} {p2 : Int} {r : Bool} (h : spec_l01In p0 p1 p2 = some r) : AC Try.prog 106 [.sv (.int .i64 p0), .sv (.int .i64 p1), .sv (.int .i64 p2)] [] (spec_l01In_res r) (spec_l01In_obs r) := by
  refine ac_of_body hT Try.func106 rfl fun C hC => ?_
  unfold spec_l01In at h
  refine s_reg ?_
  refine v_op hT hC rfl rfl rfl rfl trivial ?_
  refine Vc.nil ?_
  refine live [0, 1, 2, 6] [] (s' := [_, _, _, _]) (o' := []) rfl rfl ?_
  obtain ⟨v1, h1, h⟩ := bnd_some h
  refine aw_to ([(6, .sv (.bool v1)), (0, .any), (1, .any), (2, .any)], []) ?_ ?_
  · have h := h1
    refine aw_region ?_
    iterate 4 refine v_op hT hC rfl rfl rfl rfl trivial ?_
    rcases sel_some h with ⟨hb1, h⟩ | ⟨hb1, h⟩
    · iterate 3 refine v_on hT hC rfl rfl rfl rfl hb1 rfl rfl rfl trivial ?_
      refine v_pick hC rfl rfl rfl (b := true) hb1 rfl rfl rfl trivial ?_
      refine v_op hT hC rfl rfl rfl rfl trivial ?_
      refine Vc.nil ?_
      injection h with h
      subst h
      refine m_norm ?_
      apply w_conv hC []
      · repeat' first | exact CO.nil | apply CO.gone | apply CO.row rfl rfl | apply CO.box rfl rfl | decide
      · rfl
      · decide
      · rfl
    · refine v_off hC rfl rfl rfl rfl hb1 rfl rfl ?_
      refine v_off hC rfl rfl rfl rfl hb1 rfl rfl ?_
      refine v_off hC rfl rfl rfl rfl hb1 rfl rfl ?_
      refine v_pick hC rfl rfl rfl (b := false) hb1 rfl rfl rfl trivial ?_
      refine v_op hT hC rfl rfl rfl rfl trivial ?_
      refine Vc.nil ?_
      injection h with h
      subst h
      refine m_norm ?_
      apply w_conv hC []
      · repeat' first | exact CO.nil | apply CO.gone | apply CO.row rfl rfl | apply CO.box rfl rfl | decide
      · rfl
      · decide
      · rfl
  refine aw_ret ?_
  injection h with h
  subst h
  exact ends (Weak.refl _) rfl trivial
def spec_PicOk_res (r : Bool) : AV := .sv (.bool r)
def spec_PicOk_obs (r : Bool) : Objs := []
theorem spec_PicOk_ac {p0 : Pic} {r : Bool} (h : spec_PicOk p0 = some r) : AC Try.prog 105 [.agg [.sv (.int .i64 p0.Wide), .sv (.int .i64 p0.High), .sv (.str p0.Dots)]] [] (spec_PicOk_res r) (spec_PicOk_obs r) := by
  refine ac_of_body hT Try.func105 rfl fun C hC => ?_
  unfold spec_PicOk at h
  refine s_reg ?_
  iterate 2 refine v_op hT hC rfl rfl rfl rfl trivial ?_
  refine Vc.nil ?_
  refine live [1, 2] [16] (s' := [_, _]) (o' := [_]) rfl rfl ?_
  obtain ⟨v1, h1, h⟩ := bnd_some h
  refine aw_to ([(2, .sv (.bool v1)), (1, .any)], [(16, none)]) ?_ ?_
  · have h := h1
    refine aw_region ?_
    iterate 2 refine v_op hT hC rfl rfl rfl rfl trivial ?_
    obtain ⟨q2, hq, h⟩ := bnd_some h
    refine v_call hC [] rfl rfl rfl rfl Try.call106 (spec_l01In_ac hq) rfl (by decide) trivial rfl (.inl rfl) rfl ?_
    refine v_op hT hC rfl rfl rfl rfl trivial ?_
    rcases sel_some h with ⟨hb1, h⟩ | ⟨hb1, h⟩
    · iterate 2 refine v_on hT hC rfl rfl rfl rfl hb1 rfl rfl rfl trivial ?_
      obtain ⟨q3, hq, h⟩ := bnd_some h
      refine v_call_on hC [] rfl rfl rfl rfl hb1 rfl rfl rfl Try.call106 (spec_l01In_ac hq) rfl (by decide) trivial rfl (.inl rfl) rfl ?_
      refine v_pick hC rfl rfl rfl (b := true) hb1 rfl rfl rfl trivial ?_
      refine v_op hT hC rfl rfl rfl rfl trivial ?_
      rcases sel_some h with ⟨hb2, h⟩ | ⟨hb2, h⟩
      · iterate 9 refine v_on hT hC rfl rfl rfl rfl hb2 rfl rfl rfl trivial ?_
        refine v_pick hC rfl rfl rfl (b := true) hb2 rfl rfl rfl trivial ?_
        refine v_op hT hC rfl rfl rfl rfl trivial ?_
        refine Vc.nil ?_
        injection h with h
        subst h
        refine m_norm ?_
        apply w_conv hC []
        · repeat' first | exact CO.nil | apply CO.gone | apply CO.row rfl rfl | apply CO.box rfl rfl | decide
        · rfl
        · decide
        · rfl
      · refine v_off hC rfl rfl rfl rfl hb2 rfl rfl ?_
        refine v_off hC rfl rfl rfl rfl hb2 rfl rfl ?_
        refine v_off hC rfl rfl rfl rfl hb2 rfl rfl ?_
        refine v_off hC rfl rfl rfl rfl hb2 rfl rfl ?_
        refine v_off hC rfl rfl rfl rfl hb2 rfl rfl ?_
        refine v_off hC rfl rfl rfl rfl hb2 rfl rfl ?_
        refine v_off hC rfl rfl rfl rfl hb2 rfl rfl ?_
        refine v_off hC rfl rfl rfl rfl hb2 rfl rfl ?_
        refine v_off hC rfl rfl rfl rfl hb2 rfl rfl ?_
        refine v_pick hC rfl rfl rfl (b := false) hb2 rfl rfl rfl trivial ?_
        refine v_op hT hC rfl rfl rfl rfl trivial ?_
        refine Vc.nil ?_
        injection h with h
        subst h
        refine m_norm ?_
        apply w_conv hC []
        · repeat' first | exact CO.nil | apply CO.gone | apply CO.row rfl rfl | apply CO.box rfl rfl | decide
        · rfl
        · decide
        · rfl
    · refine v_off hC rfl rfl rfl rfl hb1 rfl rfl ?_
      refine v_off hC rfl rfl rfl rfl hb1 rfl rfl ?_
      refine v_off hC rfl rfl rfl rfl hb1 rfl rfl ?_
      refine v_pick hC rfl rfl rfl (b := false) hb1 rfl rfl rfl trivial ?_
      refine v_op hT hC rfl rfl rfl rfl trivial ?_
      refine v_off hC rfl rfl rfl rfl rfl rfl rfl ?_
      refine v_off hC rfl rfl rfl rfl rfl rfl rfl ?_
      refine v_off hC rfl rfl rfl rfl rfl rfl rfl ?_
      refine v_off hC rfl rfl rfl rfl rfl rfl rfl ?_
      refine v_off hC rfl rfl rfl rfl rfl rfl rfl ?_
      refine v_off hC rfl rfl rfl rfl rfl rfl rfl ?_
      refine v_off hC rfl rfl rfl rfl rfl rfl rfl ?_
      refine v_off hC rfl rfl rfl rfl rfl rfl rfl ?_
      refine v_off hC rfl rfl rfl rfl rfl rfl rfl ?_
      iterate 2 refine v_op hT hC rfl rfl rfl rfl trivial ?_
      refine Vc.nil ?_
      injection h with h
      subst h
      refine m_norm ?_
      apply w_conv hC []
      · repeat' first | exact CO.nil | apply CO.gone | apply CO.row rfl rfl | apply CO.box rfl rfl | decide
      · rfl
      · decide
      · rfl
  refine aw_ret ?_
  injection h with h
  subst h
  exact ends (Weak.refl _) rfl trivial
def impl_PicOk_res (r : Bool) : AV := .sv (.bool r)
def impl_PicOk_obs (r : Bool) : Objs := []
theorem impl_PicOk_ac {p0 : Pic} {r : Bool} (h : impl_PicOk p0 = some r) : AC Try.prog 108 [.agg [.sv (.int .i64 p0.Wide), .sv (.int .i64 p0.High), .sv (.str p0.Dots)]] [] (impl_PicOk_res r) (impl_PicOk_obs r) := by
  refine ac_of_body hT Try.func108 rfl fun C hC => ?_
  unfold impl_PicOk at h
  refine s_reg ?_
  iterate 2 refine v_op hT hC rfl rfl rfl rfl trivial ?_
  refine Vc.nil ?_
  refine live [1, 2] [16] (s' := [_, _]) (o' := [_]) rfl rfl ?_
  obtain ⟨v1, h1, h⟩ := bnd_some h
  refine aw_to ([(2, .sv (.bool v1)), (1, .any)], [(16, none)]) ?_ ?_
  · have h := h1
    refine aw_region ?_
    iterate 2 refine v_op hT hC rfl rfl rfl rfl trivial ?_
    obtain ⟨q2, hq, h⟩ := bnd_some h
    refine v_call hC [] rfl rfl rfl rfl Try.call102 (impl_within_ac hq) rfl (by decide) trivial rfl (.inl rfl) rfl ?_
    refine v_op hT hC rfl rfl rfl rfl trivial ?_
    rcases sel_some h with ⟨hb1, h⟩ | ⟨hb1, h⟩
    · iterate 2 refine v_on hT hC rfl rfl rfl rfl hb1 rfl rfl rfl trivial ?_
      obtain ⟨q3, hq, h⟩ := bnd_some h
      refine v_call_on hC [] rfl rfl rfl rfl hb1 rfl rfl rfl Try.call102 (impl_within_ac hq) rfl (by decide) trivial rfl (.inl rfl) rfl ?_
      refine v_pick hC rfl rfl rfl (b := true) hb1 rfl rfl rfl trivial ?_
      refine v_op hT hC rfl rfl rfl rfl trivial ?_
      rcases sel_some h with ⟨hb2, h⟩ | ⟨hb2, h⟩
      · iterate 9 refine v_on hT hC rfl rfl rfl rfl hb2 rfl rfl rfl trivial ?_
        refine v_pick hC rfl rfl rfl (b := true) hb2 rfl rfl rfl trivial ?_
        refine v_op hT hC rfl rfl rfl rfl trivial ?_
        refine Vc.nil ?_
        injection h with h
        subst h
        refine m_norm ?_
        apply w_conv hC []
        · repeat' first | exact CO.nil | apply CO.gone | apply CO.row rfl rfl | apply CO.box rfl rfl | decide
        · rfl
        · decide
        · rfl
      · refine v_off hC rfl rfl rfl rfl hb2 rfl rfl ?_
        refine v_off hC rfl rfl rfl rfl hb2 rfl rfl ?_
        refine v_off hC rfl rfl rfl rfl hb2 rfl rfl ?_
        refine v_off hC rfl rfl rfl rfl hb2 rfl rfl ?_
        refine v_off hC rfl rfl rfl rfl hb2 rfl rfl ?_
        refine v_off hC rfl rfl rfl rfl hb2 rfl rfl ?_
        refine v_off hC rfl rfl rfl rfl hb2 rfl rfl ?_
        refine v_off hC rfl rfl rfl rfl hb2 rfl rfl ?_
        refine v_off hC rfl rfl rfl rfl hb2 rfl rfl ?_
        refine v_pick hC rfl rfl rfl (b := false) hb2 rfl rfl rfl trivial ?_
        refine v_op hT hC rfl rfl rfl rfl trivial ?_
        refine Vc.nil ?_
        injection h with h
        subst h
        refine m_norm ?_
        apply w_conv hC []
        · repeat' first | exact CO.nil | apply CO.gone | apply CO.row rfl rfl | apply CO.box rfl rfl | decide
        · rfl
        · decide
        · rfl
    · refine v_off hC rfl rfl rfl rfl hb1 rfl rfl ?_
      refine v_off hC rfl rfl rfl rfl hb1 rfl rfl ?_
      refine v_off hC rfl rfl rfl rfl hb1 rfl rfl ?_
      refine v_pick hC rfl rfl rfl (b := false) hb1 rfl rfl rfl trivial ?_
      refine v_op hT hC rfl rfl rfl rfl trivial ?_
      refine v_off hC rfl rfl rfl rfl rfl rfl rfl ?_
      refine v_off hC rfl rfl rfl rfl rfl rfl rfl ?_
      refine v_off hC rfl rfl rfl rfl rfl rfl rfl ?_
      refine v_off hC rfl rfl rfl rfl rfl rfl rfl ?_
      refine v_off hC rfl rfl rfl rfl rfl rfl rfl ?_
      refine v_off hC rfl rfl rfl rfl rfl rfl rfl ?_
      refine v_off hC rfl rfl rfl rfl rfl rfl rfl ?_
      refine v_off hC rfl rfl rfl rfl rfl rfl rfl ?_
      refine v_off hC rfl rfl rfl rfl rfl rfl rfl ?_
      iterate 2 refine v_op hT hC rfl rfl rfl rfl trivial ?_
      refine Vc.nil ?_
      injection h with h
      subst h
      refine m_norm ?_
      apply w_conv hC []
      · repeat' first | exact CO.nil | apply CO.gone | apply CO.row rfl rfl | apply CO.box rfl rfl | decide
      · rfl
      · decide
      · rfl
  refine aw_ret ?_
  injection h with h
  subst h
  exact ends (Weak.refl _) rfl trivial
def impl_figuresOf_res (r : Int) : AV := .sv (.int .i64 r)
def impl_figuresOf_obs (r : Int) : Objs := []
theorem impl_figuresOf_ac {p0 : Int} {r : Int} (h : impl_figuresOf p0 = some r) : AC Try.prog 273 [.sv (.int .i64 p0)] [] (impl_figuresOf_res r) (impl_figuresOf_obs r) := by
  refine ac_of_body hT Try.func273 rfl fun C hC => ?_
  unfold impl_figuresOf at h
  refine s_reg ?_
  refine v_op hT hC rfl rfl rfl rfl trivial ?_
  refine Vc.nil ?_
  refine s_reg ?_
  refine v_op hT hC rfl rfl rfl rfl trivial ?_
  refine Vc.nil ?_
  refine s_in ?_
  refine live [0, 3] [] (s' := [_, _]) (o' := []) rfl rfl ?_
  obtain ⟨v4, hl, h⟩ := bnd_some h
  refine s_loop (fun v2 => ([(0, .sv (.int .i64 v2.1)), (3, .sv (.int .i64 v2.2))], [])) (fun v4 => ([(3, .sv (.int .i64 v4)), (0, .any)], [])) hl ?_ ?_ ?_
  · try dsimp only
    apply w_conv hC []
    · repeat' first | exact CO.nil | apply CO.gone | apply CO.row rfl rfl | apply CO.box rfl rfl | decide
    · rfl
    · decide
    · rfl
  · intro v2 s hs
    have h := hs
    unfold impl_figuresOf_l2 at h
    refine s_in ?_
    refine s_reg ?_
    iterate 2 refine v_op hT hC rfl rfl rfl rfl trivial ?_
    refine Vc.nil ?_
    rcases sel_some h with ⟨hb3, h⟩ | ⟨hb3, h⟩
    · refine s_true rfl hb3 ?_
      refine aw_skip ?_
      refine t_norm ?_
      refine s_in ?_
      refine s_block ?_
      refine aw_region ?_
      iterate 3 refine v_op hT hC rfl rfl rfl rfl trivial ?_
      refine Vc.nil ?_
      refine b_norm ?_
      refine t_norm ?_
      refine aw_region ?_
      refine v_op hT hC rfl rfl rfl rfl trivial ?_
      obtain ⟨hq, h⟩ := req_some h
      refine v_op hT hC rfl rfl rfl rfl hq ?_
      refine v_op hT hC rfl rfl rfl rfl trivial ?_
      refine Vc.nil ?_
      injection h with h
      subst h
      refine r_go ?_
      try dsimp only
      apply w_conv hC []
      · repeat' first | exact CO.nil | apply CO.gone | apply CO.row rfl rfl | apply CO.box rfl rfl | decide
      · rfl
      · decide
      · rfl
    · refine s_false rfl hb3 ?_
      refine aw_exit ?_
      refine t_exit ?_
      injection h with h
      subst h
      refine r_exit ?_
      refine o_out ?_
      apply w_conv hC []
      · repeat' first | exact CO.nil | apply CO.gone | apply CO.row rfl rfl | apply CO.box rfl rfl | decide
      · rfl
      · decide
      · rfl
  refine t_norm ?_
  refine s_reg ?_
  iterate 2 refine v_op hT hC rfl rfl rfl rfl trivial ?_
  refine Vc.nil ?_
  refine aw_ret ?_
  injection h with h
  subst h
  exact ends (Weak.refl _) rfl trivial
def impl_signs_res (r : ByteArray) : AV := .sv (.str r)
def impl_signs_obs (r : ByteArray) : Objs := []
theorem impl_signs_ac {p0 : Int} {p1 : Int} {r : ByteArray} (h : impl_signs p0 p1 = some r) : AC Try.prog 226 [.sv (.int .i64 p0), .sv (.int .i64 p1)] [] (impl_signs_res r) (impl_signs_obs r) := by
  refine ac_of_body hT Try.func226 rfl fun C hC => ?_
  unfold impl_signs at h
  refine s_reg ?_
  refine v_op hT hC rfl rfl rfl rfl trivial ?_
  refine Vc.nil ?_
  refine s_reg ?_
  refine v_op hT hC rfl rfl rfl rfl trivial ?_
  obtain ⟨hq, h⟩ := req_some h
  refine v_op hT hC rfl rfl rfl rfl ⟨hq.1, hq.2.1, hq.2.2, by decide⟩ ?_
  refine v_op hT hC rfl rfl rfl rfl trivial ?_
  refine Vc.nil ?_
  refine s_in ?_
  refine s_reg ?_
  iterate 3 refine v_op hT hC rfl rfl rfl rfl trivial ?_
  refine Vc.nil ?_
  refine live [0, 5, 6] [128] (s' := [_, _, _]) (o' := [_]) rfl rfl ?_
  obtain ⟨v4, hl, h⟩ := bnd_some h
  refine s_loop (fun v2 => ([(0, .sv (.int .i64 v2.1)), (6, .sv (.int .i64 v2.2.1))], [(128, some (.ints .u8 v2.2.2))])) (fun v4 => ([(0, .any), (6, .any)], [(128, some (.ints .u8 v4))])) hl ?_ ?_ ?_
  · try dsimp only
    apply w_conv hC []
    · repeat' first | exact CO.nil | apply CO.gone | apply CO.row rfl rfl | apply CO.box rfl rfl | decide
    · rfl
    · decide
    · rfl
  · intro v2 s hs
    have h := hs
    unfold impl_signs_l2 at h
    refine s_in ?_
    refine s_reg ?_
    iterate 2 refine v_op hT hC rfl rfl rfl rfl trivial ?_
    refine Vc.nil ?_
    rcases sel_some h with ⟨hb3, h⟩ | ⟨hb3, h⟩
    · refine s_true rfl hb3 ?_
      refine aw_skip ?_
      refine t_norm ?_
      refine s_in ?_
      refine s_block ?_
      refine s_reg ?_
      iterate 6 refine v_op hT hC rfl rfl rfl rfl trivial ?_
      obtain ⟨hq, h⟩ := req_some h
      refine v_op hT hC rfl rfl rfl rfl hq ?_
      obtain ⟨hq, h⟩ := req_some h
      refine v_op hT hC rfl rfl rfl rfl hq ?_
      refine Vc.nil ?_
      refine aw_region ?_
      refine v_op hT hC rfl rfl rfl rfl trivial ?_
      obtain ⟨hq, h⟩ := req_some h
      refine v_op hT hC rfl rfl rfl rfl hq ?_
      refine v_op hT hC rfl rfl rfl rfl trivial ?_
      refine Vc.nil ?_
      refine b_norm ?_
      refine t_norm ?_
      refine aw_region ?_
      iterate 3 refine v_op hT hC rfl rfl rfl rfl trivial ?_
      refine Vc.nil ?_
      injection h with h
      subst h
      refine r_go ?_
      try dsimp only
      apply w_conv hC []
      · repeat' first | exact CO.nil | apply CO.gone | apply CO.row rfl rfl | apply CO.box rfl rfl | decide
      · rfl
      · decide
      · rfl
    · refine s_false rfl hb3 ?_
      refine aw_exit ?_
      refine t_exit ?_
      injection h with h
      subst h
      refine r_exit ?_
      refine o_out ?_
      apply w_conv hC []
      · repeat' first | exact CO.nil | apply CO.gone | apply CO.row rfl rfl | apply CO.box rfl rfl | decide
      · rfl
      · decide
      · rfl
  refine t_norm ?_
  refine s_reg ?_
  iterate 3 refine v_op hT hC rfl rfl rfl rfl trivial ?_
  refine Vc.nil ?_
  refine aw_ret ?_
  injection h with h
  subst h
  exact ends (Weak.refl _) rfl trivial
def impl_ue_res (r : ByteArray) : AV := .sv (.str r)
def impl_ue_obs (r : ByteArray) : Objs := []
theorem impl_ue_ac {p0 : Int} {r : ByteArray} (h : impl_ue p0 = some r) : AC Try.prog 225 [.sv (.int .i64 p0)] [] (impl_ue_res r) (impl_ue_obs r) := by
  refine ac_of_body hT Try.func225 rfl fun C hC => ?_
  unfold impl_ue at h
  refine s_reg ?_
  refine v_op hT hC rfl rfl rfl rfl trivial ?_
  refine Vc.nil ?_
  refine s_reg ?_
  iterate 4 refine v_op hT hC rfl rfl rfl rfl trivial ?_
  obtain ⟨q1, hq, h⟩ := bnd_some h
  refine v_call hC [] rfl rfl rfl rfl Try.call273 (impl_figuresOf_ac hq) rfl (by decide) trivial rfl (.inl rfl) rfl ?_
  iterate 2 refine v_op hT hC rfl rfl rfl rfl trivial ?_
  obtain ⟨q2, hq, h⟩ := bnd_some h
  refine v_call hC [] rfl rfl rfl rfl Try.call226 (impl_signs_ac hq) rfl (by decide) trivial rfl (.inl rfl) rfl ?_
  refine v_op hT hC rfl rfl rfl rfl trivial ?_
  refine Vc.nil ?_
  refine aw_ret ?_
  injection h with h
  subst h
  exact ends (Weak.refl _) rfl trivial
def laws_toPar_res (r : Par) : AV := .agg [.sv (.int .i64 r.Qp), .sv (.bool r.Large), .sv (.bool r.Exact), .sv (.bool r.Confined)]
def laws_toPar_obs (r : Par) : Objs := []
theorem laws_toPar_ac {p0 : Par} {r : Par} (h : laws_toPar p0 = some r) : AC Try.prog 32 [.agg [.sv (.int .i64 p0.Qp), .sv (.bool p0.Large), .sv (.bool p0.Exact), .sv (.bool p0.Confined)]] [] (laws_toPar_res r) (laws_toPar_obs r) := by
  refine ac_of_body hT Try.func32 rfl fun C hC => ?_
  unfold laws_toPar at h
  refine s_reg ?_
  iterate 2 refine v_op hT hC rfl rfl rfl rfl trivial ?_
  refine Vc.nil ?_
  refine s_reg ?_
  refine v_op hT hC rfl rfl rfl rfl trivial ?_
  refine Vc.nil ?_
  refine s_reg ?_
  iterate 4 refine v_op hT hC rfl rfl rfl rfl trivial ?_
  refine Vc.nil ?_
  refine s_reg ?_
  iterate 4 refine v_op hT hC rfl rfl rfl rfl trivial ?_
  refine Vc.nil ?_
  refine s_reg ?_
  iterate 4 refine v_op hT hC rfl rfl rfl rfl trivial ?_
  refine Vc.nil ?_
  refine s_reg ?_
  iterate 4 refine v_op hT hC rfl rfl rfl rfl trivial ?_
  refine Vc.nil ?_
  refine s_reg ?_
  iterate 2 refine v_op hT hC rfl rfl rfl rfl trivial ?_
  refine Vc.nil ?_
  refine aw_ret ?_
  injection h with h
  subst h
  exact ends (Weak.refl _) rfl trivial
def laws_toRate_res (r : Rate) : AV := .agg [.sv (.int .i64 r.Qp), .sv (.int .i64 r.Target), .sv (.int .i64 r.Debt)]
def laws_toRate_obs (r : Rate) : Objs := []
theorem laws_toRate_ac {p0 : Rate} {r : Rate} (h : laws_toRate p0 = some r) : AC Try.prog 33 [.agg [.sv (.int .i64 p0.Qp), .sv (.int .i64 p0.Target), .sv (.int .i64 p0.Debt)]] [] (laws_toRate_res r) (laws_toRate_obs r) := by
  refine ac_of_body hT Try.func33 rfl fun C hC => ?_
  unfold laws_toRate at h
  refine s_reg ?_
  iterate 2 refine v_op hT hC rfl rfl rfl rfl trivial ?_
  refine Vc.nil ?_
  refine s_reg ?_
  refine v_op hT hC rfl rfl rfl rfl trivial ?_
  refine Vc.nil ?_
  refine s_reg ?_
  iterate 4 refine v_op hT hC rfl rfl rfl rfl trivial ?_
  refine Vc.nil ?_
  refine s_reg ?_
  iterate 4 refine v_op hT hC rfl rfl rfl rfl trivial ?_
  refine Vc.nil ?_
  refine s_reg ?_
  iterate 4 refine v_op hT hC rfl rfl rfl rfl trivial ?_
  refine Vc.nil ?_
  refine s_reg ?_
  iterate 2 refine v_op hT hC rfl rfl rfl rfl trivial ?_
  refine Vc.nil ?_
  refine aw_ret ?_
  injection h with h
  subst h
  exact ends (Weak.refl _) rfl trivial
def spec_l05Sum_res (r : Int) : AV := .sv (.int .i64 r)
def spec_l05Sum_obs (r : Int) : Objs := []
theorem spec_l05Sum_ac {p0 : (List Int)} {r : Int} (h : spec_l05Sum p0 = some r) : AC Try.prog 264 [.sv (.ints .i64 p0)] [] (spec_l05Sum_res r) (spec_l05Sum_obs r) := by
  refine ac_of_body hT Try.func264 rfl fun C hC => ?_
  unfold spec_l05Sum at h
  refine s_reg ?_
  refine v_op hT hC rfl rfl rfl rfl trivial ?_
  refine Vc.nil ?_
  refine s_in ?_
  refine live [0] [] (s' := [_]) (o' := []) rfl rfl ?_
  obtain ⟨v1, h1, h⟩ := bnd_some h
  refine aw_to ([(12, .sv (.bool v1))], []) ?_ ?_
  · have h := h1
    refine aw_region ?_
    iterate 4 refine v_op hT hC rfl rfl rfl rfl trivial ?_
    rcases sel_some h with ⟨hb1, h⟩ | ⟨hb1, h⟩
    · refine v_off hC rfl rfl rfl rfl hb1 rfl rfl ?_
      refine v_off hC rfl rfl rfl rfl hb1 rfl rfl ?_
      refine v_off hC rfl rfl rfl rfl hb1 rfl rfl ?_
      refine v_pick hC rfl rfl rfl (b := true) hb1 rfl rfl rfl trivial ?_
      refine Vc.nil ?_
      injection h with h
      subst h
      refine m_norm ?_
      apply w_conv hC []
      · repeat' first | exact CO.nil | apply CO.gone | apply CO.row rfl rfl | apply CO.box rfl rfl | decide
      · rfl
      · decide
      · rfl
    · iterate 3 refine v_on hT hC rfl rfl rfl rfl hb1 rfl rfl rfl trivial ?_
      refine v_pick hC rfl rfl rfl (b := false) hb1 rfl rfl rfl trivial ?_
      refine Vc.nil ?_
      injection h with h
      subst h
      refine m_norm ?_
      apply w_conv hC []
      · repeat' first | exact CO.nil | apply CO.gone | apply CO.row rfl rfl | apply CO.box rfl rfl | decide
      · rfl
      · decide
      · rfl
  rcases sel_some h with ⟨hb2, h⟩ | ⟨hb2, h⟩
  · refine s_true rfl hb2 ?_
    refine s_reg ?_
    refine v_op hT hC rfl rfl rfl rfl trivial ?_
    refine Vc.nil ?_
    refine aw_ret ?_
    refine t_ret ?_
    injection h with h
    subst h
    exact ends (Weak.refl _) rfl trivial
  · refine s_false rfl hb2 ?_
    refine aw_skip ?_
    refine t_norm ?_
    refine s_reg ?_
    refine v_op hT hC rfl rfl rfl rfl trivial ?_
    refine Vc.nil ?_
    refine s_in ?_
    refine s_reg ?_
    refine v_op hT hC rfl rfl rfl rfl trivial ?_
    refine Vc.nil ?_
    refine live [0, 3, 4] [] (s' := [_, _, _]) (o' := []) rfl rfl ?_
    obtain ⟨o9, hl, h⟩ := bnd_some h
    refine s_loopR (fun v4 => ([(3, .sv (.int .i64 v4.1)), (4, .sv (.int .i64 v4.2))], [])) (fun v7 => ([(3, .sv (.int .i64 v7)), (0, .any), (4, .any)], [])) (fun r => EndsA C T Try.f264.results.toList (spec_l05Sum_res r) (spec_l05Sum_obs r)) hl ?_ ?_ ?_ ?_
    · try dsimp only
      apply w_conv hC []
      · repeat' first | exact CO.nil | apply CO.gone | apply CO.row rfl rfl | apply CO.box rfl rfl | decide
      · rfl
      · decide
      · rfl
    · intro v4 s hs
      have h := hs
      unfold spec_l05Sum_l2 at h
      refine s_in ?_
      refine s_reg ?_
      iterate 4 refine v_op hT hC rfl rfl rfl rfl trivial ?_
      refine Vc.nil ?_
      rcases sel_some h with ⟨hb7, h⟩ | ⟨hb7, h⟩
      · refine s_true rfl hb7 ?_
        refine aw_skip ?_
        refine t_norm ?_
        refine s_in ?_
        refine s_block ?_
        refine s_in ?_
        refine s_reg ?_
        iterate 2 refine v_op hT hC rfl rfl rfl rfl trivial ?_
        obtain ⟨hq, h⟩ := req_some h
        refine v_op hT hC rfl rfl rfl rfl hq ?_
        refine v_op hT hC rfl rfl rfl rfl trivial ?_
        obtain ⟨q8, hq, h⟩ := bnd_some h
        refine v_call hC [] rfl rfl rfl rfl Try.call106 (spec_l01In_ac hq) rfl (by decide) trivial rfl (.inl rfl) rfl ?_
        refine v_op hT hC rfl rfl rfl rfl trivial ?_
        refine Vc.nil ?_
        rcases sel_some h with ⟨hb8, h⟩ | ⟨hb8, h⟩
        · refine s_true rfl hb8 ?_
          refine s_reg ?_
          refine v_op hT hC rfl rfl rfl rfl trivial ?_
          refine Vc.nil ?_
          refine aw_ret ?_
          refine t_ret ?_
          refine b_ret ?_
          refine t_ret ?_
          injection h with h
          subst h
          refine r_ret ?_
          refine o_ret ?_
          exact ends (Weak.refl _) rfl trivial
        · refine s_false rfl hb8 ?_
          refine aw_skip ?_
          refine t_norm ?_
          refine aw_region ?_
          iterate 3 refine v_op hT hC rfl rfl rfl rfl trivial ?_
          obtain ⟨hq, h⟩ := req_some h
          refine v_op hT hC rfl rfl rfl rfl hq ?_
          iterate 3 refine v_op hT hC rfl rfl rfl rfl trivial ?_
          refine Vc.nil ?_
          refine b_norm ?_
          refine t_norm ?_
          refine aw_region ?_
          iterate 3 refine v_op hT hC rfl rfl rfl rfl trivial ?_
          refine Vc.nil ?_
          injection h with h
          subst h
          refine r_go ?_
          try dsimp only
          apply w_conv hC []
          · repeat' first | exact CO.nil | apply CO.gone | apply CO.row rfl rfl | apply CO.box rfl rfl | decide
          · rfl
          · decide
          · rfl
      · refine s_false rfl hb7 ?_
        refine aw_exit ?_
        refine t_exit ?_
        injection h with h
        subst h
        refine r_exit ?_
        refine o_both ?_
        apply w_conv hC []
        · repeat' first | exact CO.nil | apply CO.gone | apply CO.row rfl rfl | apply CO.box rfl rfl | decide
        · rfl
        · decide
        · rfl
    · intro v7 e
      subst e
      refine t_norm ?_
      refine s_reg ?_
      iterate 2 refine v_op hT hC rfl rfl rfl rfl trivial ?_
      refine Vc.nil ?_
      refine aw_ret ?_
      injection h with h
      subst h
      exact ends (Weak.refl _) rfl trivial
    · intro r' σ' e hE
      subst e
      injection h with h
      subst h
      refine t_ret ?_
      exact hE
def spec_SquaresOf_res (r : Int) : AV := .sv (.int .i64 r)
def spec_SquaresOf_obs (r : Int) : Objs := []
theorem spec_SquaresOf_ac {p0 : Seq} {r : Int} (h : spec_SquaresOf p0 = some r) : AC Try.prog 248 [.agg [.sv (.int .i64 p0.Level), .sv (.int .i64 p0.Bits), .sv (.ints .i64 p0.Cols), .sv (.ints .i64 p0.Rows)]] [] (spec_SquaresOf_res r) (spec_SquaresOf_obs r) := by
  refine ac_of_body hT Try.func248 rfl fun C hC => ?_
  unfold spec_SquaresOf at h
  refine s_reg ?_
  iterate 2 refine v_op hT hC rfl rfl rfl rfl trivial ?_
  refine Vc.nil ?_
  refine s_draw hm ?_
  iterate 2 refine v_op hT hC rfl rfl rfl rfl trivial ?_
  obtain ⟨q1, hq, h⟩ := bnd_some h
  refine v_call hC [] rfl rfl rfl rfl Try.call264 (spec_l05Sum_ac hq) rfl (by decide) trivial rfl (.inl rfl) rfl ?_
  iterate 2 refine v_op hT hC rfl rfl rfl rfl trivial ?_
  obtain ⟨q2, hq, h⟩ := bnd_some h
  refine v_call hC [] rfl rfl rfl rfl Try.call264 (spec_l05Sum_ac hq) rfl (by decide) trivial rfl (.inl rfl) rfl ?_
  iterate 2 refine v_op hT hC rfl rfl rfl rfl trivial ?_
  refine Vc.nil ⟨by kernel_rfl, ?_⟩
  refine aw_ret ?_
  injection h with h
  subst h
  exact ends (Weak.refl _) rfl trivial
def spec_LevelSquares_res (r : Int) : AV := .sv (.int .i64 r)
def spec_LevelSquares_obs (r : Int) : Objs := []
theorem spec_LevelSquares_ac {p0 : Int} {r : Int} (h : spec_LevelSquares p0 = some r) : AC Try.prog 263 [.sv (.int .i64 p0)] [] (spec_LevelSquares_res r) (spec_LevelSquares_obs r) := by
  refine ac_of_body hT Try.func263 rfl fun C hC => ?_
  unfold spec_LevelSquares at h
  refine s_reg ?_
  refine v_op hT hC rfl rfl rfl rfl trivial ?_
  refine Vc.nil ?_
  refine s_in ?_
  refine s_reg ?_
  refine v_op hT hC rfl rfl rfl rfl trivial ?_
  refine Vc.nil ?_
  refine s_block ?_
  refine s_reg ?_
  iterate 2 refine v_op hT hC rfl rfl rfl rfl trivial ?_
  refine Vc.nil ?_
  rcases sel_some h with ⟨hb1, h⟩ | ⟨hb1, h⟩
  · refine s_true rfl hb1 ?_
    refine s_reg ?_
    refine v_op hT hC rfl rfl rfl rfl trivial ?_
    refine Vc.nil ?_
    refine aw_ret ?_
    refine b_ret ?_
    refine t_ret ?_
    injection h with h
    subst h
    exact ends (Weak.refl _) rfl trivial
  · refine s_false rfl hb1 ?_
    refine s_reg ?_
    iterate 2 refine v_op hT hC rfl rfl rfl rfl trivial ?_
    refine Vc.nil ?_
    rcases sel_some h with ⟨hb2, h⟩ | ⟨hb2, h⟩
    · refine s_true rfl hb2 ?_
      refine s_reg ?_
      refine v_op hT hC rfl rfl rfl rfl trivial ?_
      refine Vc.nil ?_
      refine aw_ret ?_
      refine b_ret ?_
      refine t_ret ?_
      injection h with h
      subst h
      exact ends (Weak.refl _) rfl trivial
    · refine s_false rfl hb2 ?_
      refine s_reg ?_
      iterate 2 refine v_op hT hC rfl rfl rfl rfl trivial ?_
      refine Vc.nil ?_
      rcases sel_some h with ⟨hb3, h⟩ | ⟨hb3, h⟩
      · refine s_true rfl hb3 ?_
        refine s_reg ?_
        refine v_op hT hC rfl rfl rfl rfl trivial ?_
        refine Vc.nil ?_
        refine aw_ret ?_
        refine b_ret ?_
        refine t_ret ?_
        injection h with h
        subst h
        exact ends (Weak.refl _) rfl trivial
      · refine s_false rfl hb3 ?_
        refine aw_skip ?_
        refine b_norm ?_
        refine t_norm ?_
        refine s_reg ?_
        refine v_op hT hC rfl rfl rfl rfl trivial ?_
        refine Vc.nil ?_
        refine aw_ret ?_
        injection h with h
        subst h
        exact ends (Weak.refl _) rfl trivial
def spec_SeqOk_res (r : Bool) : AV := .sv (.bool r)
def spec_SeqOk_obs (r : Bool) : Objs := []
theorem spec_SeqOk_ac {p0 : Seq} {r : Bool} (h : spec_SeqOk p0 = some r) : AC Try.prog 195 [.agg [.sv (.int .i64 p0.Level), .sv (.int .i64 p0.Bits), .sv (.ints .i64 p0.Cols), .sv (.ints .i64 p0.Rows)]] [] (spec_SeqOk_res r) (spec_SeqOk_obs r) := by
  refine ac_of_body hT Try.func195 rfl fun C hC => ?_
  unfold spec_SeqOk at h
  refine s_reg ?_
  iterate 2 refine v_op hT hC rfl rfl rfl rfl trivial ?_
  refine Vc.nil ?_
  refine live [1, 2] [16] (s' := [_, _]) (o' := [_]) rfl rfl ?_
  obtain ⟨v1, h1, h⟩ := bnd_some h
  refine aw_to ([(2, .sv (.bool v1)), (1, .any)], [(16, none)]) ?_ ?_
  · have h := h1
    refine aw_draw hm ?_
    refine v_op hT hC rfl rfl rfl rfl trivial ?_
    obtain ⟨q2, hq, h⟩ := bnd_some h
    refine v_call hC [] rfl rfl rfl rfl Try.call248 (spec_SquaresOf_ac hq) rfl (by decide) trivial rfl (.inl rfl) rfl ?_
    iterate 2 refine v_op hT hC rfl rfl rfl rfl trivial ?_
    obtain ⟨q3, hq, h⟩ := bnd_some h
    refine v_call hC [] rfl rfl rfl rfl Try.call263 (spec_LevelSquares_ac hq) rfl (by decide) trivial rfl (.inl rfl) rfl ?_
    obtain ⟨q4, hq, h⟩ := bnd_some h
    refine v_call hC [] rfl rfl rfl rfl Try.call106 (spec_l01In_ac hq) rfl (by decide) trivial rfl (.inl rfl) rfl ?_
    refine v_op hT hC rfl rfl rfl rfl trivial ?_
    rcases sel_some h with ⟨hb1, h⟩ | ⟨hb1, h⟩
    · iterate 2 refine v_on hT hC rfl rfl rfl rfl hb1 rfl rfl rfl trivial ?_
      obtain ⟨q5, hq, h⟩ := bnd_some h
      refine v_call_on hC [] rfl rfl rfl rfl hb1 rfl rfl rfl Try.call106 (spec_l01In_ac hq) rfl (by decide) trivial rfl (.inl rfl) rfl ?_
      refine v_pick hC rfl rfl rfl (b := true) hb1 rfl rfl rfl trivial ?_
      refine v_op hT hC rfl rfl rfl rfl trivial ?_
      refine Vc.nil ⟨by kernel_rfl, ?_⟩
      injection h with h
      subst h
      refine m_norm ?_
      apply w_conv hC []
      · repeat' first | exact CO.nil | apply CO.gone | apply CO.row rfl rfl | apply CO.box rfl rfl | decide
      · rfl
      · decide
      · rfl
    · refine v_off hC rfl rfl rfl rfl hb1 rfl rfl ?_
      refine v_off hC rfl rfl rfl rfl hb1 rfl rfl ?_
      refine v_off hC rfl rfl rfl rfl hb1 rfl rfl ?_
      refine v_pick hC rfl rfl rfl (b := false) hb1 rfl rfl rfl trivial ?_
      refine v_op hT hC rfl rfl rfl rfl trivial ?_
      refine Vc.nil ⟨by kernel_rfl, ?_⟩
      injection h with h
      subst h
      refine m_norm ?_
      apply w_conv hC []
      · repeat' first | exact CO.nil | apply CO.gone | apply CO.row rfl rfl | apply CO.box rfl rfl | decide
      · rfl
      · decide
      · rfl
  refine aw_ret ?_
  injection h with h
  subst h
  exact ends (Weak.refl _) rfl trivial
def spec_TilesOf_res (r : Int) : AV := .sv (.int .i64 r)
def spec_TilesOf_obs (r : Int) : Objs := []
theorem spec_TilesOf_ac {p0 : Seq} {r : Int} (h : spec_TilesOf p0 = some r) : AC Try.prog 196 [.agg [.sv (.int .i64 p0.Level), .sv (.int .i64 p0.Bits), .sv (.ints .i64 p0.Cols), .sv (.ints .i64 p0.Rows)]] [] (spec_TilesOf_res r) (spec_TilesOf_obs r) := by
  refine ac_of_body hT Try.func196 rfl fun C hC => ?_
  unfold spec_TilesOf at h
  refine s_reg ?_
  iterate 2 refine v_op hT hC rfl rfl rfl rfl trivial ?_
  refine Vc.nil ?_
  refine s_in ?_
  refine s_reg ?_
  refine v_op hT hC rfl rfl rfl rfl trivial ?_
  obtain ⟨q1, hq, h⟩ := bnd_some h
  refine v_call hC [] rfl rfl rfl rfl Try.call195 (spec_SeqOk_ac hq) rfl (by decide) trivial rfl (.inl rfl) rfl ?_
  refine v_op hT hC rfl rfl rfl rfl trivial ?_
  refine Vc.nil ?_
  rcases sel_some h with ⟨hb1, h⟩ | ⟨hb1, h⟩
  · refine s_true rfl hb1 ?_
    refine s_reg ?_
    refine v_op hT hC rfl rfl rfl rfl trivial ?_
    refine Vc.nil ?_
    refine aw_ret ?_
    refine t_ret ?_
    injection h with h
    subst h
    exact ends (Weak.refl _) rfl trivial
  · refine s_false rfl hb1 ?_
    refine aw_skip ?_
    refine t_norm ?_
    refine s_reg ?_
    iterate 8 refine v_op hT hC rfl rfl rfl rfl trivial ?_
    refine Vc.nil ?_
    refine aw_ret ?_
    injection h with h
    subst h
    exact ends (Weak.refl _) rfl trivial
def spec_ParOk_res (r : Bool) : AV := .sv (.bool r)
def spec_ParOk_obs (r : Bool) : Objs := []
theorem spec_ParOk_ac {p0 : Par} {r : Bool} (h : spec_ParOk p0 = some r) : AC Try.prog 197 [.agg [.sv (.int .i64 p0.Qp), .sv (.bool p0.Large), .sv (.bool p0.Exact), .sv (.bool p0.Confined)]] [] (spec_ParOk_res r) (spec_ParOk_obs r) := by
  refine ac_of_body hT Try.func197 rfl fun C hC => ?_
  unfold spec_ParOk at h
  refine s_reg ?_
  iterate 2 refine v_op hT hC rfl rfl rfl rfl trivial ?_
  refine Vc.nil ?_
  refine live [1, 2] [16] (s' := [_, _]) (o' := [_]) rfl rfl ?_
  obtain ⟨v1, h1, h⟩ := bnd_some h
  refine aw_to ([(2, .sv (.bool v1)), (1, .any)], [(16, none)]) ?_ ?_
  · have h := h1
    refine aw_region ?_
    iterate 2 refine v_op hT hC rfl rfl rfl rfl trivial ?_
    obtain ⟨q2, hq, h⟩ := bnd_some h
    refine v_call hC [] rfl rfl rfl rfl Try.call106 (spec_l01In_ac hq) rfl (by decide) trivial rfl (.inl rfl) rfl ?_
    refine v_op hT hC rfl rfl rfl rfl trivial ?_
    rcases sel_some h with ⟨hb1, h⟩ | ⟨hb1, h⟩
    · iterate 3 refine v_on hT hC rfl rfl rfl rfl hb1 rfl rfl rfl trivial ?_
      rcases sel_some h with ⟨hb2, h⟩ | ⟨hb2, h⟩
      · iterate 2 refine v_on hT hC rfl rfl rfl rfl hb2 rfl rfl rfl trivial ?_
        refine v_pick_on hC rfl rfl rfl rfl hb1 rfl rfl (b := true) hb2 rfl rfl rfl trivial ?_
        refine v_on hT hC rfl rfl rfl rfl hb1 rfl rfl rfl trivial ?_
        refine v_pick hC rfl rfl rfl (b := true) hb1 rfl rfl rfl trivial ?_
        refine v_op hT hC rfl rfl rfl rfl trivial ?_
        refine Vc.nil ?_
        injection h with h
        subst h
        refine m_norm ?_
        apply w_conv hC []
        · repeat' first | exact CO.nil | apply CO.gone | apply CO.row rfl rfl | apply CO.box rfl rfl | decide
        · rfl
        · decide
        · rfl
      · refine v_off hC rfl rfl rfl rfl hb2 rfl rfl ?_
        refine v_off hC rfl rfl rfl rfl hb2 rfl rfl ?_
        refine v_pick_on hC rfl rfl rfl rfl hb1 rfl rfl (b := false) hb2 rfl rfl rfl trivial ?_
        refine v_on hT hC rfl rfl rfl rfl hb1 rfl rfl rfl trivial ?_
        refine v_pick hC rfl rfl rfl (b := true) hb1 rfl rfl rfl trivial ?_
        refine v_op hT hC rfl rfl rfl rfl trivial ?_
        refine Vc.nil ?_
        injection h with h
        subst h
        refine m_norm ?_
        apply w_conv hC []
        · repeat' first | exact CO.nil | apply CO.gone | apply CO.row rfl rfl | apply CO.box rfl rfl | decide
        · rfl
        · decide
        · rfl
    · refine v_off hC rfl rfl rfl rfl hb1 rfl rfl ?_
      refine v_off hC rfl rfl rfl rfl hb1 rfl rfl ?_
      refine v_off hC rfl rfl rfl rfl hb1 rfl rfl ?_
      iterate 2 refine v_dead hC rfl rfl rfl rfl rfl rfl ?_
      refine v_off hC rfl rfl rfl rfl hb1 rfl rfl ?_
      refine v_off hC rfl rfl rfl rfl hb1 rfl rfl ?_
      refine v_pick hC rfl rfl rfl (b := false) hb1 rfl rfl rfl trivial ?_
      refine v_op hT hC rfl rfl rfl rfl trivial ?_
      refine Vc.nil ?_
      injection h with h
      subst h
      refine m_norm ?_
      apply w_conv hC []
      · repeat' first | exact CO.nil | apply CO.gone | apply CO.row rfl rfl | apply CO.box rfl rfl | decide
      · rfl
      · decide
      · rfl
  refine aw_ret ?_
  injection h with h
  subst h
  exact ends (Weak.refl _) rfl trivial
def spec_RateOk_res (r : Bool) : AV := .sv (.bool r)
def spec_RateOk_obs (r : Bool) : Objs := []
theorem spec_RateOk_ac {p0 : Rate} {r : Bool} (h : spec_RateOk p0 = some r) : AC Try.prog 198 [.agg [.sv (.int .i64 p0.Qp), .sv (.int .i64 p0.Target), .sv (.int .i64 p0.Debt)]] [] (spec_RateOk_res r) (spec_RateOk_obs r) := by
  refine ac_of_body hT Try.func198 rfl fun C hC => ?_
  unfold spec_RateOk at h
  refine s_reg ?_
  iterate 2 refine v_op hT hC rfl rfl rfl rfl trivial ?_
  refine Vc.nil ?_
  refine live [1, 2] [16] (s' := [_, _]) (o' := [_]) rfl rfl ?_
  obtain ⟨v1, h1, h⟩ := bnd_some h
  refine aw_to ([(2, .sv (.bool v1)), (1, .any)], [(16, none)]) ?_ ?_
  · have h := h1
    refine aw_region ?_
    iterate 2 refine v_op hT hC rfl rfl rfl rfl trivial ?_
    obtain ⟨q2, hq, h⟩ := bnd_some h
    refine v_call hC [] rfl rfl rfl rfl Try.call106 (spec_l01In_ac hq) rfl (by decide) trivial rfl (.inl rfl) rfl ?_
    refine v_op hT hC rfl rfl rfl rfl trivial ?_
    rcases sel_some h with ⟨hb1, h⟩ | ⟨hb1, h⟩
    · iterate 2 refine v_on hT hC rfl rfl rfl rfl hb1 rfl rfl rfl trivial ?_
      obtain ⟨q3, hq, h⟩ := bnd_some h
      refine v_call_on hC [] rfl rfl rfl rfl hb1 rfl rfl rfl Try.call106 (spec_l01In_ac hq) rfl (by decide) trivial rfl (.inl rfl) rfl ?_
      refine v_pick hC rfl rfl rfl (b := true) hb1 rfl rfl rfl trivial ?_
      refine v_op hT hC rfl rfl rfl rfl trivial ?_
      rcases sel_some h with ⟨hb2, h⟩ | ⟨hb2, h⟩
      · iterate 8 refine v_on hT hC rfl rfl rfl rfl hb2 rfl rfl rfl trivial ?_
        obtain ⟨q4, hq, h⟩ := bnd_some h
        refine v_call_on hC [] rfl rfl rfl rfl hb2 rfl rfl rfl Try.call106 (spec_l01In_ac hq) rfl (by decide) trivial rfl (.inl rfl) rfl ?_
        refine v_pick hC rfl rfl rfl (b := true) hb2 rfl rfl rfl trivial ?_
        refine v_op hT hC rfl rfl rfl rfl trivial ?_
        refine Vc.nil ?_
        injection h with h
        subst h
        refine m_norm ?_
        apply w_conv hC []
        · repeat' first | exact CO.nil | apply CO.gone | apply CO.row rfl rfl | apply CO.box rfl rfl | decide
        · rfl
        · decide
        · rfl
      · refine v_off hC rfl rfl rfl rfl hb2 rfl rfl ?_
        refine v_off hC rfl rfl rfl rfl hb2 rfl rfl ?_
        refine v_off hC rfl rfl rfl rfl hb2 rfl rfl ?_
        refine v_off hC rfl rfl rfl rfl hb2 rfl rfl ?_
        refine v_off hC rfl rfl rfl rfl hb2 rfl rfl ?_
        refine v_off hC rfl rfl rfl rfl hb2 rfl rfl ?_
        refine v_off hC rfl rfl rfl rfl hb2 rfl rfl ?_
        refine v_off hC rfl rfl rfl rfl hb2 rfl rfl ?_
        refine v_off hC rfl rfl rfl rfl hb2 rfl rfl ?_
        refine v_pick hC rfl rfl rfl (b := false) hb2 rfl rfl rfl trivial ?_
        refine v_op hT hC rfl rfl rfl rfl trivial ?_
        refine Vc.nil ?_
        injection h with h
        subst h
        refine m_norm ?_
        apply w_conv hC []
        · repeat' first | exact CO.nil | apply CO.gone | apply CO.row rfl rfl | apply CO.box rfl rfl | decide
        · rfl
        · decide
        · rfl
    · refine v_off hC rfl rfl rfl rfl hb1 rfl rfl ?_
      refine v_off hC rfl rfl rfl rfl hb1 rfl rfl ?_
      refine v_off hC rfl rfl rfl rfl hb1 rfl rfl ?_
      refine v_pick hC rfl rfl rfl (b := false) hb1 rfl rfl rfl trivial ?_
      refine v_op hT hC rfl rfl rfl rfl trivial ?_
      refine v_off hC rfl rfl rfl rfl rfl rfl rfl ?_
      refine v_off hC rfl rfl rfl rfl rfl rfl rfl ?_
      refine v_off hC rfl rfl rfl rfl rfl rfl rfl ?_
      refine v_off hC rfl rfl rfl rfl rfl rfl rfl ?_
      refine v_off hC rfl rfl rfl rfl rfl rfl rfl ?_
      refine v_off hC rfl rfl rfl rfl rfl rfl rfl ?_
      refine v_off hC rfl rfl rfl rfl rfl rfl rfl ?_
      refine v_off hC rfl rfl rfl rfl rfl rfl rfl ?_
      refine v_off hC rfl rfl rfl rfl rfl rfl rfl ?_
      iterate 2 refine v_op hT hC rfl rfl rfl rfl trivial ?_
      refine Vc.nil ?_
      injection h with h
      subst h
      refine m_norm ?_
      apply w_conv hC []
      · repeat' first | exact CO.nil | apply CO.gone | apply CO.row rfl rfl | apply CO.box rfl rfl | decide
      · rfl
      · decide
      · rfl
  refine aw_ret ?_
  injection h with h
  subst h
  exact ends (Weak.refl _) rfl trivial
def spec_SizeOf_res (r : (Int × Int)) : AV := .tup [.sv (.int .i64 r.1), .sv (.int .i64 r.2)]
def spec_SizeOf_obs (r : (Int × Int)) : Objs := []
theorem spec_SizeOf_ac {p0 : Seq} {r : (Int × Int)} (h : spec_SizeOf p0 = some r) : AC Try.prog 199 [.agg [.sv (.int .i64 p0.Level), .sv (.int .i64 p0.Bits), .sv (.ints .i64 p0.Cols), .sv (.ints .i64 p0.Rows)]] [] (spec_SizeOf_res r) (spec_SizeOf_obs r) := by
  refine ac_of_body hT Try.func199 rfl fun C hC => ?_
  unfold spec_SizeOf at h
  refine s_reg ?_
  iterate 3 refine v_op hT hC rfl rfl rfl rfl trivial ?_
  refine Vc.nil ?_
  refine s_in ?_
  refine s_reg ?_
  refine v_op hT hC rfl rfl rfl rfl trivial ?_
  obtain ⟨q1, hq, h⟩ := bnd_some h
  refine v_call hC [] rfl rfl rfl rfl Try.call195 (spec_SeqOk_ac hq) rfl (by decide) trivial rfl (.inl rfl) rfl ?_
  refine v_op hT hC rfl rfl rfl rfl trivial ?_
  refine Vc.nil ?_
  rcases sel_some h with ⟨hb1, h⟩ | ⟨hb1, h⟩
  · refine s_true rfl hb1 ?_
    refine s_reg ?_
    iterate 2 refine v_op hT hC rfl rfl rfl rfl trivial ?_
    refine Vc.nil ?_
    refine aw_ret ?_
    refine t_ret ?_
    injection h with h
    subst h
    exact ends (Weak.refl _) rfl trivial
  · refine s_false rfl hb1 ?_
    refine aw_skip ?_
    refine t_norm ?_
    refine s_draw hm ?_
    iterate 2 refine v_op hT hC rfl rfl rfl rfl trivial ?_
    obtain ⟨q2, hq, h⟩ := bnd_some h
    refine v_call hC [] rfl rfl rfl rfl Try.call264 (spec_l05Sum_ac hq) rfl (by decide) trivial rfl (.inl rfl) rfl ?_
    iterate 3 refine v_op hT hC rfl rfl rfl rfl trivial ?_
    obtain ⟨q3, hq, h⟩ := bnd_some h
    refine v_call hC [] rfl rfl rfl rfl Try.call264 (spec_l05Sum_ac hq) rfl (by decide) trivial rfl (.inl rfl) rfl ?_
    iterate 3 refine v_op hT hC rfl rfl rfl rfl trivial ?_
    refine Vc.nil ⟨by kernel_rfl, ?_⟩
    refine aw_ret ?_
    injection h with h
    subst h
    exact ends (Weak.refl _) rfl trivial
def spec_SourceOk_res (r : Bool) : AV := .sv (.bool r)
def spec_SourceOk_obs (r : Bool) : Objs := []
theorem spec_SourceOk_ac {p0 : Source} {r : Bool} (h : spec_SourceOk p0 = some r) : AC Try.prog 116 [.agg [.sv (.int .i64 p0.Seq.Level), .sv (.int .i64 p0.Seq.Bits), .sv (.ints .i64 p0.Seq.Cols), .sv (.ints .i64 p0.Seq.Rows), .sv (.int .i64 p0.Par.Qp), .sv (.bool p0.Par.Large), .sv (.bool p0.Par.Exact), .sv (.bool p0.Par.Confined), .sv (.int .i64 p0.Rate.Qp), .sv (.int .i64 p0.Rate.Target), .sv (.int .i64 p0.Rate.Debt), .sv (.int .i64 p0.Frame), .sv (.int .i64 p0.Since), .sv (.int .i64 p0.Every), .sv (.int .i64 p0.Reach), .sv (.bool p0.Has), .sv (.int .i64 p0.Ref.Wide), .sv (.int .i64 p0.Ref.High), .sv (.str p0.Ref.Dots)]] [] (spec_SourceOk_res r) (spec_SourceOk_obs r) := by
  refine ac_of_body hT Try.func116 rfl fun C hC => ?_
  unfold spec_SourceOk at h
  refine s_reg ?_
  iterate 2 refine v_op hT hC rfl rfl rfl rfl trivial ?_
  refine Vc.nil ?_
  refine s_in ?_
  refine live [1] [16] (s' := [_]) (o' := [_]) rfl rfl ?_
  obtain ⟨v1, h1, h⟩ := bnd_some h
  refine aw_to ([(35, .sv (.bool v1))], []) ?_ ?_
  · have h := h1
    refine aw_region ?_
    iterate 2 refine v_op hT hC rfl rfl rfl rfl trivial ?_
    obtain ⟨q2, hq, h⟩ := bnd_some h
    refine v_call hC [] rfl rfl rfl rfl Try.call196 (spec_TilesOf_ac hq) rfl (by decide) trivial rfl (.inl rfl) rfl ?_
    iterate 2 refine v_op hT hC rfl rfl rfl rfl trivial ?_
    rcases sel_some h with ⟨hb1, h⟩ | ⟨hb1, h⟩
    · refine v_off hC rfl rfl rfl rfl hb1 rfl rfl ?_
      refine v_off hC rfl rfl rfl rfl hb1 rfl rfl ?_
      refine v_off hC rfl rfl rfl rfl hb1 rfl rfl ?_
      refine v_off hC rfl rfl rfl rfl hb1 rfl rfl ?_
      refine v_pick hC rfl rfl rfl (b := true) hb1 rfl rfl rfl trivial ?_
      refine v_op hT hC rfl rfl rfl rfl trivial ?_
      refine v_off hC rfl rfl rfl rfl rfl rfl rfl ?_
      refine v_off hC rfl rfl rfl rfl rfl rfl rfl ?_
      refine v_off hC rfl rfl rfl rfl rfl rfl rfl ?_
      refine v_off hC rfl rfl rfl rfl rfl rfl rfl ?_
      iterate 2 refine v_op hT hC rfl rfl rfl rfl trivial ?_
      refine v_off hC rfl rfl rfl rfl rfl rfl rfl ?_
      refine v_off hC rfl rfl rfl rfl rfl rfl rfl ?_
      refine v_off hC rfl rfl rfl rfl rfl rfl rfl ?_
      iterate 2 refine v_op hT hC rfl rfl rfl rfl trivial ?_
      refine v_off hC rfl rfl rfl rfl rfl rfl rfl ?_
      refine v_off hC rfl rfl rfl rfl rfl rfl rfl ?_
      refine v_off hC rfl rfl rfl rfl rfl rfl rfl ?_
      refine v_off hC rfl rfl rfl rfl rfl rfl rfl ?_
      refine v_off hC rfl rfl rfl rfl rfl rfl rfl ?_
      refine v_off hC rfl rfl rfl rfl rfl rfl rfl ?_
      refine v_off hC rfl rfl rfl rfl rfl rfl rfl ?_
      refine v_off hC rfl rfl rfl rfl rfl rfl rfl ?_
      refine v_op hT hC rfl rfl rfl rfl trivial ?_
      refine Vc.nil ?_
      injection h with h
      subst h
      refine m_norm ?_
      apply w_conv hC []
      · repeat' first | exact CO.nil | apply CO.gone | apply CO.row rfl rfl | apply CO.box rfl rfl | decide
      · rfl
      · decide
      · rfl
    · iterate 2 refine v_on hT hC rfl rfl rfl rfl hb1 rfl rfl rfl trivial ?_
      obtain ⟨q3, hq, h⟩ := bnd_some h
      refine v_call_on hC [] rfl rfl rfl rfl hb1 rfl rfl rfl Try.call197 (spec_ParOk_ac hq) rfl (by decide) trivial rfl (.inl rfl) rfl ?_
      refine v_on hT hC rfl rfl rfl rfl hb1 rfl rfl rfl trivial ?_
      refine v_pick hC rfl rfl rfl (b := false) hb1 rfl rfl rfl trivial ?_
      refine v_op hT hC rfl rfl rfl rfl trivial ?_
      rcases sel_some h with ⟨hb2, h⟩ | ⟨hb2, h⟩
      · iterate 2 refine v_on hT hC rfl rfl rfl rfl (congrArg Bool.not hb2) rfl rfl rfl trivial ?_
        obtain ⟨q4, hq, h⟩ := bnd_some h
        refine v_call_on hC [] rfl rfl rfl rfl (congrArg Bool.not hb2) rfl rfl rfl Try.call198 (spec_RateOk_ac hq) rfl (by decide) trivial rfl (.inl rfl) rfl ?_
        refine v_on hT hC rfl rfl rfl rfl (congrArg Bool.not hb2) rfl rfl rfl trivial ?_
        refine v_pick hC rfl rfl rfl (b := false) (congrArg Bool.not hb2) rfl rfl rfl trivial ?_
        refine v_op hT hC rfl rfl rfl rfl trivial ?_
        rcases sel_some h with ⟨hb3, h⟩ | ⟨hb3, h⟩
        · iterate 3 refine v_on hT hC rfl rfl rfl rfl (congrArg Bool.not hb3) rfl rfl rfl trivial ?_
          refine v_pick hC rfl rfl rfl (b := false) (congrArg Bool.not hb3) rfl rfl rfl trivial ?_
          refine v_op hT hC rfl rfl rfl rfl trivial ?_
          rcases sel_some h with ⟨hb4, h⟩ | ⟨hb4, h⟩
          · refine v_off hC rfl rfl rfl rfl hb4 rfl rfl ?_
            refine v_off hC rfl rfl rfl rfl hb4 rfl rfl ?_
            refine v_off hC rfl rfl rfl rfl hb4 rfl rfl ?_
            refine v_off hC rfl rfl rfl rfl hb4 rfl rfl ?_
            refine v_off hC rfl rfl rfl rfl hb4 rfl rfl ?_
            refine v_off hC rfl rfl rfl rfl hb4 rfl rfl ?_
            refine v_off hC rfl rfl rfl rfl hb4 rfl rfl ?_
            refine v_off hC rfl rfl rfl rfl hb4 rfl rfl ?_
            refine v_pick hC rfl rfl rfl (b := true) hb4 rfl rfl rfl trivial ?_
            refine Vc.nil ?_
            injection h with h
            subst h
            refine m_norm ?_
            apply w_conv hC []
            · repeat' first | exact CO.nil | apply CO.gone | apply CO.row rfl rfl | apply CO.box rfl rfl | decide
            · rfl
            · decide
            · rfl
          · iterate 6 refine v_on hT hC rfl rfl rfl rfl hb4 rfl rfl rfl trivial ?_
            obtain ⟨hq, h⟩ := req_some h
            refine v_on hT hC rfl rfl rfl rfl hb4 rfl rfl rfl hq ?_
            refine v_on hT hC rfl rfl rfl rfl hb4 rfl rfl rfl trivial ?_
            refine v_pick hC rfl rfl rfl (b := false) hb4 rfl rfl rfl trivial ?_
            refine Vc.nil ?_
            injection h with h
            subst h
            refine m_norm ?_
            apply w_conv hC []
            · repeat' first | exact CO.nil | apply CO.gone | apply CO.row rfl rfl | apply CO.box rfl rfl | decide
            · rfl
            · decide
            · rfl
        · refine v_off hC rfl rfl rfl rfl (congrArg Bool.not hb3) rfl rfl ?_
          refine v_off hC rfl rfl rfl rfl (congrArg Bool.not hb3) rfl rfl ?_
          refine v_off hC rfl rfl rfl rfl (congrArg Bool.not hb3) rfl rfl ?_
          refine v_pick hC rfl rfl rfl (b := true) (congrArg Bool.not hb3) rfl rfl rfl trivial ?_
          refine v_op hT hC rfl rfl rfl rfl trivial ?_
          refine v_off hC rfl rfl rfl rfl rfl rfl rfl ?_
          refine v_off hC rfl rfl rfl rfl rfl rfl rfl ?_
          refine v_off hC rfl rfl rfl rfl rfl rfl rfl ?_
          refine v_off hC rfl rfl rfl rfl rfl rfl rfl ?_
          refine v_off hC rfl rfl rfl rfl rfl rfl rfl ?_
          refine v_off hC rfl rfl rfl rfl rfl rfl rfl ?_
          refine v_off hC rfl rfl rfl rfl rfl rfl rfl ?_
          refine v_off hC rfl rfl rfl rfl rfl rfl rfl ?_
          refine v_op hT hC rfl rfl rfl rfl trivial ?_
          refine Vc.nil ?_
          injection h with h
          subst h
          refine m_norm ?_
          apply w_conv hC []
          · repeat' first | exact CO.nil | apply CO.gone | apply CO.row rfl rfl | apply CO.box rfl rfl | decide
          · rfl
          · decide
          · rfl
      · refine v_off hC rfl rfl rfl rfl (congrArg Bool.not hb2) rfl rfl ?_
        refine v_off hC rfl rfl rfl rfl (congrArg Bool.not hb2) rfl rfl ?_
        refine v_off hC rfl rfl rfl rfl (congrArg Bool.not hb2) rfl rfl ?_
        refine v_off hC rfl rfl rfl rfl (congrArg Bool.not hb2) rfl rfl ?_
        refine v_pick hC rfl rfl rfl (b := true) (congrArg Bool.not hb2) rfl rfl rfl trivial ?_
        refine v_op hT hC rfl rfl rfl rfl trivial ?_
        refine v_off hC rfl rfl rfl rfl rfl rfl rfl ?_
        refine v_off hC rfl rfl rfl rfl rfl rfl rfl ?_
        refine v_off hC rfl rfl rfl rfl rfl rfl rfl ?_
        iterate 2 refine v_op hT hC rfl rfl rfl rfl trivial ?_
        refine v_off hC rfl rfl rfl rfl rfl rfl rfl ?_
        refine v_off hC rfl rfl rfl rfl rfl rfl rfl ?_
        refine v_off hC rfl rfl rfl rfl rfl rfl rfl ?_
        refine v_off hC rfl rfl rfl rfl rfl rfl rfl ?_
        refine v_off hC rfl rfl rfl rfl rfl rfl rfl ?_
        refine v_off hC rfl rfl rfl rfl rfl rfl rfl ?_
        refine v_off hC rfl rfl rfl rfl rfl rfl rfl ?_
        refine v_off hC rfl rfl rfl rfl rfl rfl rfl ?_
        refine v_op hT hC rfl rfl rfl rfl trivial ?_
        refine Vc.nil ?_
        injection h with h
        subst h
        refine m_norm ?_
        apply w_conv hC []
        · repeat' first | exact CO.nil | apply CO.gone | apply CO.row rfl rfl | apply CO.box rfl rfl | decide
        · rfl
        · decide
        · rfl
  rcases sel_some h with ⟨hb5, h⟩ | ⟨hb5, h⟩
  · refine s_true rfl hb5 ?_
    refine s_reg ?_
    refine v_op hT hC rfl rfl rfl rfl trivial ?_
    refine Vc.nil ?_
    refine aw_ret ?_
    refine t_ret ?_
    injection h with h
    subst h
    exact ends (Weak.refl _) rfl trivial
  · refine s_false rfl hb5 ?_
    refine aw_skip ?_
    refine t_norm ?_
    refine s_in ?_
    refine live [1] [16] (s' := [_]) (o' := [_]) rfl rfl ?_
    obtain ⟨v5, h1, h⟩ := bnd_some h
    refine aw_to ([(51, .sv (.bool v5))], []) ?_ ?_
    · have h := h1
      refine aw_region ?_
      iterate 2 refine v_op hT hC rfl rfl rfl rfl trivial ?_
      obtain ⟨q6, hq, h⟩ := bnd_some h
      refine v_call hC [] rfl rfl rfl rfl Try.call106 (spec_l01In_ac hq) rfl (by decide) trivial rfl (.inl rfl) rfl ?_
      iterate 2 refine v_op hT hC rfl rfl rfl rfl trivial ?_
      rcases sel_some h with ⟨hb6, h⟩ | ⟨hb6, h⟩
      · iterate 2 refine v_on hT hC rfl rfl rfl rfl (congrArg Bool.not hb6) rfl rfl rfl trivial ?_
        obtain ⟨q7, hq, h⟩ := bnd_some h
        refine v_call_on hC [] rfl rfl rfl rfl (congrArg Bool.not hb6) rfl rfl rfl Try.call106 (spec_l01In_ac hq) rfl (by decide) trivial rfl (.inl rfl) rfl ?_
        refine v_on hT hC rfl rfl rfl rfl (congrArg Bool.not hb6) rfl rfl rfl trivial ?_
        refine v_pick hC rfl rfl rfl (b := false) (congrArg Bool.not hb6) rfl rfl rfl trivial ?_
        refine v_op hT hC rfl rfl rfl rfl trivial ?_
        rcases sel_some h with ⟨hb7, h⟩ | ⟨hb7, h⟩
        · iterate 2 refine v_on hT hC rfl rfl rfl rfl (congrArg Bool.not hb7) rfl rfl rfl trivial ?_
          obtain ⟨q8, hq, h⟩ := bnd_some h
          refine v_call_on hC [] rfl rfl rfl rfl (congrArg Bool.not hb7) rfl rfl rfl Try.call106 (spec_l01In_ac hq) rfl (by decide) trivial rfl (.inl rfl) rfl ?_
          refine v_on hT hC rfl rfl rfl rfl (congrArg Bool.not hb7) rfl rfl rfl trivial ?_
          refine v_pick hC rfl rfl rfl (b := false) (congrArg Bool.not hb7) rfl rfl rfl trivial ?_
          refine Vc.nil ?_
          injection h with h
          subst h
          refine m_norm ?_
          apply w_conv hC []
          · repeat' first | exact CO.nil | apply CO.gone | apply CO.row rfl rfl | apply CO.box rfl rfl | decide
          · rfl
          · decide
          · rfl
        · refine v_off hC rfl rfl rfl rfl (congrArg Bool.not hb7) rfl rfl ?_
          refine v_off hC rfl rfl rfl rfl (congrArg Bool.not hb7) rfl rfl ?_
          refine v_off hC rfl rfl rfl rfl (congrArg Bool.not hb7) rfl rfl ?_
          refine v_off hC rfl rfl rfl rfl (congrArg Bool.not hb7) rfl rfl ?_
          refine v_pick hC rfl rfl rfl (b := true) (congrArg Bool.not hb7) rfl rfl rfl trivial ?_
          refine Vc.nil ?_
          injection h with h
          subst h
          refine m_norm ?_
          apply w_conv hC []
          · repeat' first | exact CO.nil | apply CO.gone | apply CO.row rfl rfl | apply CO.box rfl rfl | decide
          · rfl
          · decide
          · rfl
      · refine v_off hC rfl rfl rfl rfl (congrArg Bool.not hb6) rfl rfl ?_
        refine v_off hC rfl rfl rfl rfl (congrArg Bool.not hb6) rfl rfl ?_
        refine v_off hC rfl rfl rfl rfl (congrArg Bool.not hb6) rfl rfl ?_
        refine v_off hC rfl rfl rfl rfl (congrArg Bool.not hb6) rfl rfl ?_
        refine v_pick hC rfl rfl rfl (b := true) (congrArg Bool.not hb6) rfl rfl rfl trivial ?_
        refine v_op hT hC rfl rfl rfl rfl trivial ?_
        refine v_off hC rfl rfl rfl rfl rfl rfl rfl ?_
        refine v_off hC rfl rfl rfl rfl rfl rfl rfl ?_
        refine v_off hC rfl rfl rfl rfl rfl rfl rfl ?_
        refine v_off hC rfl rfl rfl rfl rfl rfl rfl ?_
        refine v_op hT hC rfl rfl rfl rfl trivial ?_
        refine Vc.nil ?_
        injection h with h
        subst h
        refine m_norm ?_
        apply w_conv hC []
        · repeat' first | exact CO.nil | apply CO.gone | apply CO.row rfl rfl | apply CO.box rfl rfl | decide
        · rfl
        · decide
        · rfl
    rcases sel_some h with ⟨hb8, h⟩ | ⟨hb8, h⟩
    · refine s_true rfl hb8 ?_
      refine s_reg ?_
      refine v_op hT hC rfl rfl rfl rfl trivial ?_
      refine Vc.nil ?_
      refine aw_ret ?_
      refine t_ret ?_
      injection h with h
      subst h
      exact ends (Weak.refl _) rfl trivial
    · refine s_false rfl hb8 ?_
      refine aw_skip ?_
      refine t_norm ?_
      refine s_reg ?_
      iterate 2 refine v_op hT hC rfl rfl rfl rfl trivial ?_
      obtain ⟨q9, hq, h⟩ := bnd_some h
      refine v_call hC [] rfl rfl rfl rfl Try.call199 (spec_SizeOf_ac hq) rfl (by decide) trivial rfl (.inl rfl) rfl ?_
      iterate 5 refine v_op hT hC rfl rfl rfl rfl trivial ?_
      refine Vc.nil ?_
      refine s_in ?_
      refine s_reg ?_
      iterate 2 refine v_op hT hC rfl rfl rfl rfl trivial ?_
      refine Vc.nil ?_
      rcases sel_some h with ⟨hb9, h⟩ | ⟨hb9, h⟩
      · refine s_true rfl hb9 ?_
        refine live [1, 3, 4] [16] (s' := [_, _, _]) (o' := [_]) rfl rfl ?_
        obtain ⟨v10, h1, h⟩ := bnd_some h
        refine aw_to ([(2, .sv (.bool v10)), (1, .any), (3, .any), (4, .any)], [(16, none)]) ?_ ?_
        · have h := h1
          refine aw_region ?_
          iterate 2 refine v_op hT hC rfl rfl rfl rfl trivial ?_
          obtain ⟨q11, hq, h⟩ := bnd_some h
          refine v_call hC [] rfl rfl rfl rfl Try.call105 (spec_PicOk_ac hq) rfl (by decide) trivial rfl (.inl rfl) rfl ?_
          refine v_op hT hC rfl rfl rfl rfl trivial ?_
          rcases sel_some h with ⟨hb10, h⟩ | ⟨hb10, h⟩
          · iterate 5 refine v_on hT hC rfl rfl rfl rfl hb10 rfl rfl rfl trivial ?_
            refine v_pick hC rfl rfl rfl (b := true) hb10 rfl rfl rfl trivial ?_
            refine v_op hT hC rfl rfl rfl rfl trivial ?_
            rcases sel_some h with ⟨hb11, h⟩ | ⟨hb11, h⟩
            · iterate 5 refine v_on hT hC rfl rfl rfl rfl hb11 rfl rfl rfl trivial ?_
              refine v_pick hC rfl rfl rfl (b := true) hb11 rfl rfl rfl trivial ?_
              refine v_op hT hC rfl rfl rfl rfl trivial ?_
              refine Vc.nil ?_
              injection h with h
              subst h
              refine m_norm ?_
              apply w_conv hC []
              · repeat' first | exact CO.nil | apply CO.gone | apply CO.row rfl rfl | apply CO.box rfl rfl | decide
              · rfl
              · decide
              · rfl
            · refine v_off hC rfl rfl rfl rfl hb11 rfl rfl ?_
              refine v_off hC rfl rfl rfl rfl hb11 rfl rfl ?_
              refine v_off hC rfl rfl rfl rfl hb11 rfl rfl ?_
              refine v_off hC rfl rfl rfl rfl hb11 rfl rfl ?_
              refine v_off hC rfl rfl rfl rfl hb11 rfl rfl ?_
              refine v_pick hC rfl rfl rfl (b := false) hb11 rfl rfl rfl trivial ?_
              refine v_op hT hC rfl rfl rfl rfl trivial ?_
              refine Vc.nil ?_
              injection h with h
              subst h
              refine m_norm ?_
              apply w_conv hC []
              · repeat' first | exact CO.nil | apply CO.gone | apply CO.row rfl rfl | apply CO.box rfl rfl | decide
              · rfl
              · decide
              · rfl
          · refine v_off hC rfl rfl rfl rfl hb10 rfl rfl ?_
            refine v_off hC rfl rfl rfl rfl hb10 rfl rfl ?_
            refine v_off hC rfl rfl rfl rfl hb10 rfl rfl ?_
            refine v_off hC rfl rfl rfl rfl hb10 rfl rfl ?_
            refine v_off hC rfl rfl rfl rfl hb10 rfl rfl ?_
            refine v_pick hC rfl rfl rfl (b := false) hb10 rfl rfl rfl trivial ?_
            refine v_op hT hC rfl rfl rfl rfl trivial ?_
            refine v_off hC rfl rfl rfl rfl rfl rfl rfl ?_
            refine v_off hC rfl rfl rfl rfl rfl rfl rfl ?_
            refine v_off hC rfl rfl rfl rfl rfl rfl rfl ?_
            refine v_off hC rfl rfl rfl rfl rfl rfl rfl ?_
            refine v_off hC rfl rfl rfl rfl rfl rfl rfl ?_
            iterate 2 refine v_op hT hC rfl rfl rfl rfl trivial ?_
            refine Vc.nil ?_
            injection h with h
            subst h
            refine m_norm ?_
            apply w_conv hC []
            · repeat' first | exact CO.nil | apply CO.gone | apply CO.row rfl rfl | apply CO.box rfl rfl | decide
            · rfl
            · decide
            · rfl
        refine aw_ret ?_
        refine t_ret ?_
        injection h with h
        subst h
        exact ends (Weak.refl _) rfl trivial
      · refine s_false rfl hb9 ?_
        refine aw_skip ?_
        refine t_norm ?_
        refine live [1] [16] (s' := [_]) (o' := [_]) rfl rfl ?_
        obtain ⟨v12, h1, h⟩ := bnd_some h
        refine aw_to ([(2, .sv (.bool v12)), (1, .any)], [(16, none)]) ?_ ?_
        · have h := h1
          refine aw_region ?_
          iterate 5 refine v_op hT hC rfl rfl rfl rfl trivial ?_
          rcases sel_some h with ⟨hb12, h⟩ | ⟨hb12, h⟩
          · iterate 4 refine v_on hT hC rfl rfl rfl rfl hb12 rfl rfl rfl trivial ?_
            refine v_pick hC rfl rfl rfl (b := true) hb12 rfl rfl rfl trivial ?_
            refine v_op hT hC rfl rfl rfl rfl trivial ?_
            rcases sel_some h with ⟨hb13, h⟩ | ⟨hb13, h⟩
            · iterate 5 refine v_on hT hC rfl rfl rfl rfl hb13 rfl rfl rfl trivial ?_
              refine v_pick hC rfl rfl rfl (b := true) hb13 rfl rfl rfl trivial ?_
              refine v_op hT hC rfl rfl rfl rfl trivial ?_
              refine Vc.nil ?_
              injection h with h
              subst h
              refine m_norm ?_
              apply w_conv hC []
              · repeat' first | exact CO.nil | apply CO.gone | apply CO.row rfl rfl | apply CO.box rfl rfl | decide
              · rfl
              · decide
              · rfl
            · refine v_off hC rfl rfl rfl rfl hb13 rfl rfl ?_
              refine v_off hC rfl rfl rfl rfl hb13 rfl rfl ?_
              refine v_off hC rfl rfl rfl rfl hb13 rfl rfl ?_
              refine v_off hC rfl rfl rfl rfl hb13 rfl rfl ?_
              refine v_off hC rfl rfl rfl rfl hb13 rfl rfl ?_
              refine v_pick hC rfl rfl rfl (b := false) hb13 rfl rfl rfl trivial ?_
              refine v_op hT hC rfl rfl rfl rfl trivial ?_
              refine Vc.nil ?_
              injection h with h
              subst h
              refine m_norm ?_
              apply w_conv hC []
              · repeat' first | exact CO.nil | apply CO.gone | apply CO.row rfl rfl | apply CO.box rfl rfl | decide
              · rfl
              · decide
              · rfl
          · refine v_off hC rfl rfl rfl rfl hb12 rfl rfl ?_
            refine v_off hC rfl rfl rfl rfl hb12 rfl rfl ?_
            refine v_off hC rfl rfl rfl rfl hb12 rfl rfl ?_
            refine v_off hC rfl rfl rfl rfl hb12 rfl rfl ?_
            refine v_pick hC rfl rfl rfl (b := false) hb12 rfl rfl rfl trivial ?_
            refine v_op hT hC rfl rfl rfl rfl trivial ?_
            refine v_off hC rfl rfl rfl rfl rfl rfl rfl ?_
            refine v_off hC rfl rfl rfl rfl rfl rfl rfl ?_
            refine v_off hC rfl rfl rfl rfl rfl rfl rfl ?_
            refine v_off hC rfl rfl rfl rfl rfl rfl rfl ?_
            refine v_off hC rfl rfl rfl rfl rfl rfl rfl ?_
            iterate 2 refine v_op hT hC rfl rfl rfl rfl trivial ?_
            refine Vc.nil ?_
            injection h with h
            subst h
            refine m_norm ?_
            apply w_conv hC []
            · repeat' first | exact CO.nil | apply CO.gone | apply CO.row rfl rfl | apply CO.box rfl rfl | decide
            · rfl
            · decide
            · rfl
        refine aw_ret ?_
        injection h with h
        subst h
        exact ends (Weak.refl _) rfl trivial
def impl_sumOf_res (r : Int) : AV := .sv (.int .i64 r)
def impl_sumOf_obs (r : Int) : Objs := []
theorem impl_sumOf_ac {p0 : (List Int)} {r : Int} (h : impl_sumOf p0 = some r) : AC Try.prog 238 [.sv (.ints .i64 p0)] [] (impl_sumOf_res r) (impl_sumOf_obs r) := by
  refine ac_of_body hT Try.func238 rfl fun C hC => ?_
  unfold impl_sumOf at h
  refine s_reg ?_
  refine v_op hT hC rfl rfl rfl rfl trivial ?_
  refine Vc.nil ?_
  refine s_reg ?_
  refine v_op hT hC rfl rfl rfl rfl trivial ?_
  refine Vc.nil ?_
  refine s_in ?_
  refine s_reg ?_
  iterate 3 refine v_op hT hC rfl rfl rfl rfl trivial ?_
  refine Vc.nil ?_
  refine live [3, 6, 7, 8] [] (s' := [_, _, _, _]) (o' := []) rfl rfl ?_
  obtain ⟨v4, hl, h⟩ := bnd_some h
  refine s_loop (fun v2 => ([(3, .sv (.int .i64 v2.1)), (8, .sv (.int .i64 v2.2))], [])) (fun v4 => ([(3, .sv (.int .i64 v4)), (6, .any), (7, .any), (8, .any)], [])) hl ?_ ?_ ?_
  · try dsimp only
    apply w_conv hC []
    · repeat' first | exact CO.nil | apply CO.gone | apply CO.row rfl rfl | apply CO.box rfl rfl | decide
    · rfl
    · decide
    · rfl
  · intro v2 s hs
    have h := hs
    unfold impl_sumOf_l2 at h
    refine s_reg ?_
    refine v_op hT hC rfl rfl rfl rfl trivial ?_
    refine Vc.nil ?_
    refine s_in ?_
    rcases sel_some h with ⟨hb3, h⟩ | ⟨hb3, h⟩
    · refine s_true rfl hb3 ?_
      refine aw_skip ?_
      refine t_norm ?_
      refine s_in ?_
      refine s_block ?_
      refine s_reg ?_
      obtain ⟨hq, h⟩ := req_some h
      refine v_op hT hC rfl rfl rfl rfl hq ?_
      iterate 2 refine v_op hT hC rfl rfl rfl rfl trivial ?_
      refine Vc.nil ?_
      refine aw_region ?_
      iterate 4 refine v_op hT hC rfl rfl rfl rfl trivial ?_
      refine Vc.nil ?_
      refine b_norm ?_
      refine t_norm ?_
      refine aw_region ?_
      iterate 2 refine v_op hT hC rfl rfl rfl rfl trivial ?_
      refine Vc.nil ?_
      injection h with h
      subst h
      refine r_go ?_
      try dsimp only
      apply w_conv hC []
      · repeat' first | exact CO.nil | apply CO.gone | apply CO.row rfl rfl | apply CO.box rfl rfl | decide
      · rfl
      · decide
      · rfl
    · refine s_false rfl hb3 ?_
      refine aw_exit ?_
      refine t_exit ?_
      injection h with h
      subst h
      refine r_exit ?_
      refine o_out ?_
      apply w_conv hC []
      · repeat' first | exact CO.nil | apply CO.gone | apply CO.row rfl rfl | apply CO.box rfl rfl | decide
      · rfl
      · decide
      · rfl
  refine t_norm ?_
  refine s_reg ?_
  iterate 2 refine v_op hT hC rfl rfl rfl rfl trivial ?_
  refine Vc.nil ?_
  refine aw_ret ?_
  injection h with h
  subst h
  exact ends (Weak.refl _) rfl trivial
def impl_SquaresOf_res (r : Int) : AV := .sv (.int .i64 r)
def impl_SquaresOf_obs (r : Int) : Objs := []
theorem impl_SquaresOf_ac {p0 : Seq} {r : Int} (h : impl_SquaresOf p0 = some r) : AC Try.prog 265 [.agg [.sv (.int .i64 p0.Level), .sv (.int .i64 p0.Bits), .sv (.ints .i64 p0.Cols), .sv (.ints .i64 p0.Rows)]] [] (impl_SquaresOf_res r) (impl_SquaresOf_obs r) := by
  refine ac_of_body hT Try.func265 rfl fun C hC => ?_
  unfold impl_SquaresOf at h
  refine s_reg ?_
  iterate 2 refine v_op hT hC rfl rfl rfl rfl trivial ?_
  refine Vc.nil ?_
  refine s_in ?_
  refine s_reg ?_
  iterate 7 refine v_op hT hC rfl rfl rfl rfl trivial ?_
  refine Vc.nil ?_
  refine live [1, 11, 12, 13] [16, 176] (s' := [_, _, _, _]) (o' := [_, _]) rfl rfl ?_
  obtain ⟨o32, hl, h⟩ := bnd_some h
  refine s_loopR (fun v11 => ([(13, .sv (.int .i64 v11))], [])) (fun v22 => ([(11, .any), (12, .any), (13, .any)], [(176, none)])) (fun r => EndsA C T Try.f265.results.toList (impl_SquaresOf_res r) (impl_SquaresOf_obs r)) hl ?_ ?_ ?_ ?_
  · apply w_conv hC []
    · repeat' first | exact CO.nil | apply CO.gone | apply CO.row rfl rfl | apply CO.box rfl rfl | decide
    · rfl
    · decide
    · rfl
  · intro v11 s hs
    have h := hs
    unfold impl_SquaresOf_l12 at h
    refine s_reg ?_
    refine v_op hT hC rfl rfl rfl rfl trivial ?_
    refine Vc.nil ?_
    refine s_in ?_
    rcases sel_some h with ⟨hb17, h⟩ | ⟨hb17, h⟩
    · refine s_true rfl hb17 ?_
      refine aw_skip ?_
      refine t_norm ?_
      refine s_in ?_
      refine s_block ?_
      refine s_reg ?_
      obtain ⟨hq, h⟩ := req_some h
      refine v_op hT hC rfl rfl rfl rfl hq ?_
      obtain ⟨hq, h⟩ := req_some h
      refine v_op hT hC rfl rfl rfl rfl hq ?_
      refine v_op hT hC rfl rfl rfl rfl trivial ?_
      refine Vc.nil ?_
      refine s_in ?_
      refine s_reg ?_
      iterate 2 refine v_op hT hC rfl rfl rfl rfl trivial ?_
      obtain ⟨q23, hq, h⟩ := bnd_some h
      refine v_call hC [] rfl rfl rfl rfl Try.call102 (impl_within_ac hq) rfl (by decide) trivial rfl (.inl rfl) rfl ?_
      refine v_op hT hC rfl rfl rfl rfl trivial ?_
      refine Vc.nil ?_
      rcases sel_some h with ⟨hb18, h⟩ | ⟨hb18, h⟩
      · refine s_true rfl hb18 ?_
        refine s_reg ?_
        refine v_op hT hC rfl rfl rfl rfl trivial ?_
        refine Vc.nil ?_
        refine aw_ret ?_
        refine t_ret ?_
        refine b_ret ?_
        refine t_ret ?_
        injection h with h
        subst h
        refine r_ret ?_
        refine o_ret ?_
        exact ends (Weak.refl _) rfl trivial
      · refine s_false rfl hb18 ?_
        refine aw_skip ?_
        refine t_norm ?_
        refine s_reg ?_
        iterate 3 refine v_op hT hC rfl rfl rfl rfl trivial ?_
        refine Vc.nil ?_
        refine live [1, 11, 12, 13, 21, 22, 23] [16, 176] (s' := [_, _, _, _, _, _, _]) (o' := [_, _]) rfl rfl ?_
        obtain ⟨o31, hl, h⟩ := bnd_some h
        refine s_loopR (fun v26 => ([(23, .sv (.int .i64 v26))], [])) (fun v29 => ([(21, .any), (22, .any), (23, .any)], [])) (fun r => EndsA C T Try.f265.results.toList (impl_SquaresOf_res r) (impl_SquaresOf_obs r)) hl ?_ ?_ ?_ ?_
        · apply w_conv hC []
          · repeat' first | exact CO.nil | apply CO.gone | apply CO.row rfl rfl | apply CO.box rfl rfl | decide
          · rfl
          · decide
          · rfl
        · intro v26 s hs
          have h := hs
          unfold impl_SquaresOf_l14 at h
          refine s_reg ?_
          refine v_op hT hC rfl rfl rfl rfl trivial ?_
          refine Vc.nil ?_
          refine s_in ?_
          rcases sel_some h with ⟨hb23, h⟩ | ⟨hb23, h⟩
          · refine s_true rfl hb23 ?_
            refine aw_skip ?_
            refine t_norm ?_
            refine s_in ?_
            refine s_block ?_
            refine s_reg ?_
            obtain ⟨hq, h⟩ := req_some h
            refine v_op hT hC rfl rfl rfl rfl hq ?_
            iterate 2 refine v_op hT hC rfl rfl rfl rfl trivial ?_
            refine Vc.nil ?_
            refine s_reg ?_
            refine v_op hT hC rfl rfl rfl rfl trivial ?_
            obtain ⟨q30, hq, h⟩ := bnd_some h
            refine v_call hC [] rfl rfl rfl rfl Try.call102 (impl_within_ac hq) rfl (by decide) trivial rfl (.inl rfl) rfl ?_
            refine v_op hT hC rfl rfl rfl rfl trivial ?_
            refine Vc.nil ?_
            rcases sel_some h with ⟨hb24, h⟩ | ⟨hb24, h⟩
            · refine s_true rfl hb24 ?_
              refine s_reg ?_
              refine v_op hT hC rfl rfl rfl rfl trivial ?_
              refine Vc.nil ?_
              refine aw_ret ?_
              refine b_ret ?_
              refine t_ret ?_
              injection h with h
              subst h
              refine r_ret ?_
              refine o_ret ?_
              exact ends (Weak.refl _) rfl trivial
            · refine s_false rfl hb24 ?_
              refine aw_skip ?_
              refine b_norm ?_
              refine t_norm ?_
              refine aw_region ?_
              iterate 2 refine v_op hT hC rfl rfl rfl rfl trivial ?_
              refine Vc.nil ?_
              injection h with h
              subst h
              refine r_go ?_
              apply w_conv hC []
              · repeat' first | exact CO.nil | apply CO.gone | apply CO.row rfl rfl | apply CO.box rfl rfl | decide
              · rfl
              · decide
              · rfl
          · refine s_false rfl hb23 ?_
            refine aw_exit ?_
            refine t_exit ?_
            injection h with h
            subst h
            refine r_exit ?_
            refine o_both ?_
            apply w_conv hC []
            · repeat' first | exact CO.nil | apply CO.gone | apply CO.row rfl rfl | apply CO.box rfl rfl | decide
            · rfl
            · decide
            · rfl
        · intro v29 e
          subst e
          refine b_norm ?_
          refine t_norm ?_
          refine aw_region ?_
          iterate 2 refine v_op hT hC rfl rfl rfl rfl trivial ?_
          refine Vc.nil ?_
          injection h with h
          subst h
          refine r_go ?_
          apply w_conv hC []
          · repeat' first | exact CO.nil | apply CO.gone | apply CO.row rfl rfl | apply CO.box rfl rfl | decide
          · rfl
          · decide
          · rfl
        · intro r' σ' e hE
          subst e
          injection h with h
          subst h
          refine b_ret ?_
          refine t_ret ?_
          refine r_ret ?_
          refine o_ret ?_
          exact hE
    · refine s_false rfl hb17 ?_
      refine aw_exit ?_
      refine t_exit ?_
      injection h with h
      subst h
      refine r_exit ?_
      refine o_both ?_
      apply w_conv hC []
      · repeat' first | exact CO.nil | apply CO.gone | apply CO.row rfl rfl | apply CO.box rfl rfl | decide
      · rfl
      · decide
      · rfl
  · intro v22 e
    subst e
    refine t_norm ?_
    refine s_draw hm ?_
    iterate 2 refine v_op hT hC rfl rfl rfl rfl trivial ?_
    obtain ⟨q33, hq, h⟩ := bnd_some h
    refine v_call hC [] rfl rfl rfl rfl Try.call238 (impl_sumOf_ac hq) rfl (by decide) trivial rfl (.inl rfl) rfl ?_
    iterate 2 refine v_op hT hC rfl rfl rfl rfl trivial ?_
    obtain ⟨q34, hq, h⟩ := bnd_some h
    refine v_call hC [] rfl rfl rfl rfl Try.call238 (impl_sumOf_ac hq) rfl (by decide) trivial rfl (.inl rfl) rfl ?_
    iterate 2 refine v_op hT hC rfl rfl rfl rfl trivial ?_
    refine Vc.nil ⟨by kernel_rfl, ?_⟩
    refine aw_ret ?_
    injection h with h
    subst h
    exact ends (Weak.refl _) rfl trivial
  · intro r' σ' e hE
    subst e
    injection h with h
    subst h
    refine t_ret ?_
    exact hE
def impl_LevelSquares_res (r : Int) : AV := .sv (.int .i64 r)
def impl_LevelSquares_obs (r : Int) : Objs := []
theorem impl_LevelSquares_ac {p0 : Int} {r : Int} (h : impl_LevelSquares p0 = some r) : AC Try.prog 266 [.sv (.int .i64 p0)] [] (impl_LevelSquares_res r) (impl_LevelSquares_obs r) := by
  refine ac_of_body hT Try.func266 rfl fun C hC => ?_
  unfold impl_LevelSquares at h
  refine s_reg ?_
  refine v_op hT hC rfl rfl rfl rfl trivial ?_
  refine Vc.nil ?_
  refine s_in ?_
  refine s_reg ?_
  refine v_op hT hC rfl rfl rfl rfl trivial ?_
  obtain ⟨q1, hq, h⟩ := bnd_some h
  refine v_call hC [] rfl rfl rfl rfl Try.call102 (impl_within_ac hq) rfl (by decide) trivial rfl (.inl rfl) rfl ?_
  refine v_op hT hC rfl rfl rfl rfl trivial ?_
  refine Vc.nil ?_
  rcases sel_some h with ⟨hb1, h⟩ | ⟨hb1, h⟩
  · refine s_true rfl hb1 ?_
    refine s_reg ?_
    refine v_op hT hC rfl rfl rfl rfl trivial ?_
    refine Vc.nil ?_
    refine aw_ret ?_
    refine t_ret ?_
    injection h with h
    subst h
    exact ends (Weak.refl _) rfl trivial
  · refine s_false rfl hb1 ?_
    refine aw_skip ?_
    refine t_norm ?_
    refine s_reg ?_
    iterate 3 refine v_op hT hC rfl rfl rfl rfl trivial ?_
    obtain ⟨hq, h⟩ := req_some h
    refine v_op hT hC rfl rfl rfl rfl hq ?_
    obtain ⟨hq, h⟩ := req_some h
    refine v_op hT hC rfl rfl rfl rfl hq ?_
    refine v_op hT hC rfl rfl rfl rfl trivial ?_
    refine Vc.nil ?_
    refine aw_ret ?_
    injection h with h
    subst h
    exact ends (Weak.refl _) rfl trivial
def impl_SeqOk_res (r : Bool) : AV := .sv (.bool r)
def impl_SeqOk_obs (r : Bool) : Objs := []
theorem impl_SeqOk_ac {p0 : Seq} {r : Bool} (h : impl_SeqOk p0 = some r) : AC Try.prog 200 [.agg [.sv (.int .i64 p0.Level), .sv (.int .i64 p0.Bits), .sv (.ints .i64 p0.Cols), .sv (.ints .i64 p0.Rows)]] [] (impl_SeqOk_res r) (impl_SeqOk_obs r) := by
  refine ac_of_body hT Try.func200 rfl fun C hC => ?_
  unfold impl_SeqOk at h
  refine s_reg ?_
  iterate 2 refine v_op hT hC rfl rfl rfl rfl trivial ?_
  refine Vc.nil ?_
  refine live [1, 2] [16] (s' := [_, _]) (o' := [_]) rfl rfl ?_
  obtain ⟨v1, h1, h⟩ := bnd_some h
  refine aw_to ([(2, .sv (.bool v1)), (1, .any)], [(16, none)]) ?_ ?_
  · have h := h1
    refine aw_draw hm ?_
    refine v_op hT hC rfl rfl rfl rfl trivial ?_
    obtain ⟨q2, hq, h⟩ := bnd_some h
    refine v_call hC [] rfl rfl rfl rfl Try.call265 (impl_SquaresOf_ac hq) rfl (by decide) trivial rfl (.inl rfl) rfl ?_
    iterate 2 refine v_op hT hC rfl rfl rfl rfl trivial ?_
    obtain ⟨q3, hq, h⟩ := bnd_some h
    refine v_call hC [] rfl rfl rfl rfl Try.call266 (impl_LevelSquares_ac hq) rfl (by decide) trivial rfl (.inl rfl) rfl ?_
    obtain ⟨q4, hq, h⟩ := bnd_some h
    refine v_call hC [] rfl rfl rfl rfl Try.call102 (impl_within_ac hq) rfl (by decide) trivial rfl (.inl rfl) rfl ?_
    refine v_op hT hC rfl rfl rfl rfl trivial ?_
    rcases sel_some h with ⟨hb1, h⟩ | ⟨hb1, h⟩
    · iterate 2 refine v_on hT hC rfl rfl rfl rfl hb1 rfl rfl rfl trivial ?_
      obtain ⟨q5, hq, h⟩ := bnd_some h
      refine v_call_on hC [] rfl rfl rfl rfl hb1 rfl rfl rfl Try.call102 (impl_within_ac hq) rfl (by decide) trivial rfl (.inl rfl) rfl ?_
      refine v_pick hC rfl rfl rfl (b := true) hb1 rfl rfl rfl trivial ?_
      refine v_op hT hC rfl rfl rfl rfl trivial ?_
      refine Vc.nil ⟨by kernel_rfl, ?_⟩
      injection h with h
      subst h
      refine m_norm ?_
      apply w_conv hC []
      · repeat' first | exact CO.nil | apply CO.gone | apply CO.row rfl rfl | apply CO.box rfl rfl | decide
      · rfl
      · decide
      · rfl
    · refine v_off hC rfl rfl rfl rfl hb1 rfl rfl ?_
      refine v_off hC rfl rfl rfl rfl hb1 rfl rfl ?_
      refine v_off hC rfl rfl rfl rfl hb1 rfl rfl ?_
      refine v_pick hC rfl rfl rfl (b := false) hb1 rfl rfl rfl trivial ?_
      refine v_op hT hC rfl rfl rfl rfl trivial ?_
      refine Vc.nil ⟨by kernel_rfl, ?_⟩
      injection h with h
      subst h
      refine m_norm ?_
      apply w_conv hC []
      · repeat' first | exact CO.nil | apply CO.gone | apply CO.row rfl rfl | apply CO.box rfl rfl | decide
      · rfl
      · decide
      · rfl
  refine aw_ret ?_
  injection h with h
  subst h
  exact ends (Weak.refl _) rfl trivial
def impl_TilesOf_res (r : Int) : AV := .sv (.int .i64 r)
def impl_TilesOf_obs (r : Int) : Objs := []
theorem impl_TilesOf_ac {p0 : Seq} {r : Int} (h : impl_TilesOf p0 = some r) : AC Try.prog 201 [.agg [.sv (.int .i64 p0.Level), .sv (.int .i64 p0.Bits), .sv (.ints .i64 p0.Cols), .sv (.ints .i64 p0.Rows)]] [] (impl_TilesOf_res r) (impl_TilesOf_obs r) := by
  refine ac_of_body hT Try.func201 rfl fun C hC => ?_
  unfold impl_TilesOf at h
  refine s_reg ?_
  iterate 2 refine v_op hT hC rfl rfl rfl rfl trivial ?_
  refine Vc.nil ?_
  refine s_in ?_
  refine s_reg ?_
  refine v_op hT hC rfl rfl rfl rfl trivial ?_
  obtain ⟨q1, hq, h⟩ := bnd_some h
  refine v_call hC [] rfl rfl rfl rfl Try.call200 (impl_SeqOk_ac hq) rfl (by decide) trivial rfl (.inl rfl) rfl ?_
  refine v_op hT hC rfl rfl rfl rfl trivial ?_
  refine Vc.nil ?_
  rcases sel_some h with ⟨hb1, h⟩ | ⟨hb1, h⟩
  · refine s_true rfl hb1 ?_
    refine s_reg ?_
    refine v_op hT hC rfl rfl rfl rfl trivial ?_
    refine Vc.nil ?_
    refine aw_ret ?_
    refine t_ret ?_
    injection h with h
    subst h
    exact ends (Weak.refl _) rfl trivial
  · refine s_false rfl hb1 ?_
    refine aw_skip ?_
    refine t_norm ?_
    refine s_reg ?_
    iterate 8 refine v_op hT hC rfl rfl rfl rfl trivial ?_
    refine Vc.nil ?_
    refine aw_ret ?_
    injection h with h
    subst h
    exact ends (Weak.refl _) rfl trivial
def impl_ParOk_res (r : Bool) : AV := .sv (.bool r)
def impl_ParOk_obs (r : Bool) : Objs := []
theorem impl_ParOk_ac {p0 : Par} {r : Bool} (h : impl_ParOk p0 = some r) : AC Try.prog 176 [.agg [.sv (.int .i64 p0.Qp), .sv (.bool p0.Large), .sv (.bool p0.Exact), .sv (.bool p0.Confined)]] [] (impl_ParOk_res r) (impl_ParOk_obs r) := by
  refine ac_of_body hT Try.func176 rfl fun C hC => ?_
  unfold impl_ParOk at h
  refine s_reg ?_
  iterate 2 refine v_op hT hC rfl rfl rfl rfl trivial ?_
  refine Vc.nil ?_
  refine live [1, 2] [16] (s' := [_, _]) (o' := [_]) rfl rfl ?_
  obtain ⟨v1, h1, h⟩ := bnd_some h
  refine aw_to ([(2, .sv (.bool v1)), (1, .any)], [(16, none)]) ?_ ?_
  · have h := h1
    refine aw_region ?_
    iterate 2 refine v_op hT hC rfl rfl rfl rfl trivial ?_
    obtain ⟨q2, hq, h⟩ := bnd_some h
    refine v_call hC [] rfl rfl rfl rfl Try.call102 (impl_within_ac hq) rfl (by decide) trivial rfl (.inl rfl) rfl ?_
    refine v_op hT hC rfl rfl rfl rfl trivial ?_
    rcases sel_some h with ⟨hb1, h⟩ | ⟨hb1, h⟩
    · iterate 3 refine v_on hT hC rfl rfl rfl rfl hb1 rfl rfl rfl trivial ?_
      rcases sel_some h with ⟨hb2, h⟩ | ⟨hb2, h⟩
      · iterate 2 refine v_on hT hC rfl rfl rfl rfl hb2 rfl rfl rfl trivial ?_
        refine v_pick_on hC rfl rfl rfl rfl hb1 rfl rfl (b := true) hb2 rfl rfl rfl trivial ?_
        refine v_on hT hC rfl rfl rfl rfl hb1 rfl rfl rfl trivial ?_
        refine v_pick hC rfl rfl rfl (b := true) hb1 rfl rfl rfl trivial ?_
        refine v_op hT hC rfl rfl rfl rfl trivial ?_
        refine Vc.nil ?_
        injection h with h
        subst h
        refine m_norm ?_
        apply w_conv hC []
        · repeat' first | exact CO.nil | apply CO.gone | apply CO.row rfl rfl | apply CO.box rfl rfl | decide
        · rfl
        · decide
        · rfl
      · refine v_off hC rfl rfl rfl rfl hb2 rfl rfl ?_
        refine v_off hC rfl rfl rfl rfl hb2 rfl rfl ?_
        refine v_pick_on hC rfl rfl rfl rfl hb1 rfl rfl (b := false) hb2 rfl rfl rfl trivial ?_
        refine v_on hT hC rfl rfl rfl rfl hb1 rfl rfl rfl trivial ?_
        refine v_pick hC rfl rfl rfl (b := true) hb1 rfl rfl rfl trivial ?_
        refine v_op hT hC rfl rfl rfl rfl trivial ?_
        refine Vc.nil ?_
        injection h with h
        subst h
        refine m_norm ?_
        apply w_conv hC []
        · repeat' first | exact CO.nil | apply CO.gone | apply CO.row rfl rfl | apply CO.box rfl rfl | decide
        · rfl
        · decide
        · rfl
    · refine v_off hC rfl rfl rfl rfl hb1 rfl rfl ?_
      refine v_off hC rfl rfl rfl rfl hb1 rfl rfl ?_
      refine v_off hC rfl rfl rfl rfl hb1 rfl rfl ?_
      iterate 2 refine v_dead hC rfl rfl rfl rfl rfl rfl ?_
      refine v_off hC rfl rfl rfl rfl hb1 rfl rfl ?_
      refine v_off hC rfl rfl rfl rfl hb1 rfl rfl ?_
      refine v_pick hC rfl rfl rfl (b := false) hb1 rfl rfl rfl trivial ?_
      refine v_op hT hC rfl rfl rfl rfl trivial ?_
      refine Vc.nil ?_
      injection h with h
      subst h
      refine m_norm ?_
      apply w_conv hC []
      · repeat' first | exact CO.nil | apply CO.gone | apply CO.row rfl rfl | apply CO.box rfl rfl | decide
      · rfl
      · decide
      · rfl
  refine aw_ret ?_
  injection h with h
  subst h
  exact ends (Weak.refl _) rfl trivial
def impl_SizeOf_res (r : (Int × Int)) : AV := .tup [.sv (.int .i64 r.1), .sv (.int .i64 r.2)]
def impl_SizeOf_obs (r : (Int × Int)) : Objs := []
theorem impl_SizeOf_ac {p0 : Seq} {r : (Int × Int)} (h : impl_SizeOf p0 = some r) : AC Try.prog 267 [.agg [.sv (.int .i64 p0.Level), .sv (.int .i64 p0.Bits), .sv (.ints .i64 p0.Cols), .sv (.ints .i64 p0.Rows)]] [] (impl_SizeOf_res r) (impl_SizeOf_obs r) := by
  refine ac_of_body hT Try.func267 rfl fun C hC => ?_
  unfold impl_SizeOf at h
  refine s_reg ?_
  iterate 3 refine v_op hT hC rfl rfl rfl rfl trivial ?_
  refine Vc.nil ?_
  refine s_in ?_
  refine s_reg ?_
  refine v_op hT hC rfl rfl rfl rfl trivial ?_
  obtain ⟨q1, hq, h⟩ := bnd_some h
  refine v_call hC [] rfl rfl rfl rfl Try.call200 (impl_SeqOk_ac hq) rfl (by decide) trivial rfl (.inl rfl) rfl ?_
  refine v_op hT hC rfl rfl rfl rfl trivial ?_
  refine Vc.nil ?_
  rcases sel_some h with ⟨hb1, h⟩ | ⟨hb1, h⟩
  · refine s_true rfl hb1 ?_
    refine s_reg ?_
    iterate 2 refine v_op hT hC rfl rfl rfl rfl trivial ?_
    refine Vc.nil ?_
    refine aw_ret ?_
    refine t_ret ?_
    injection h with h
    subst h
    exact ends (Weak.refl _) rfl trivial
  · refine s_false rfl hb1 ?_
    refine aw_skip ?_
    refine t_norm ?_
    refine s_draw hm ?_
    iterate 2 refine v_op hT hC rfl rfl rfl rfl trivial ?_
    obtain ⟨q2, hq, h⟩ := bnd_some h
    refine v_call hC [] rfl rfl rfl rfl Try.call238 (impl_sumOf_ac hq) rfl (by decide) trivial rfl (.inl rfl) rfl ?_
    iterate 3 refine v_op hT hC rfl rfl rfl rfl trivial ?_
    obtain ⟨q3, hq, h⟩ := bnd_some h
    refine v_call hC [] rfl rfl rfl rfl Try.call238 (impl_sumOf_ac hq) rfl (by decide) trivial rfl (.inl rfl) rfl ?_
    iterate 3 refine v_op hT hC rfl rfl rfl rfl trivial ?_
    refine Vc.nil ⟨by kernel_rfl, ?_⟩
    refine aw_ret ?_
    injection h with h
    subst h
    exact ends (Weak.refl _) rfl trivial
def impl_fits_res (r : Bool) : AV := .sv (.bool r)
def impl_fits_obs (r : Bool) : Objs := []
theorem impl_fits_ac {p0 : Pic} {p1 : Seq} {r : Bool} (h : impl_fits p0 p1 = some r) : AC Try.prog 202 [.agg [.sv (.int .i64 p0.Wide), .sv (.int .i64 p0.High), .sv (.str p0.Dots)], .agg [.sv (.int .i64 p1.Level), .sv (.int .i64 p1.Bits), .sv (.ints .i64 p1.Cols), .sv (.ints .i64 p1.Rows)]] [] (impl_fits_res r) (impl_fits_obs r) := by
  refine ac_of_body hT Try.func202 rfl fun C hC => ?_
  unfold impl_fits at h
  refine s_reg ?_
  iterate 3 refine v_op hT hC rfl rfl rfl rfl trivial ?_
  refine Vc.nil ?_
  refine s_reg ?_
  refine v_op hT hC rfl rfl rfl rfl trivial ?_
  obtain ⟨q1, hq, h⟩ := bnd_some h
  refine v_call hC [] rfl rfl rfl rfl Try.call267 (impl_SizeOf_ac hq) rfl (by decide) trivial rfl (.inl rfl) rfl ?_
  iterate 5 refine v_op hT hC rfl rfl rfl rfl trivial ?_
  refine Vc.nil ?_
  refine live [2, 4, 5, 6] [32] (s' := [_, _, _, _]) (o' := [_]) rfl rfl ?_
  obtain ⟨v2, h1, h⟩ := bnd_some h
  refine aw_to ([(4, .sv (.bool v2)), (2, .any), (5, .any), (6, .any)], [(32, none)]) ?_ ?_
  · have h := h1
    refine aw_region ?_
    refine v_op hT hC rfl rfl rfl rfl trivial ?_
    obtain ⟨q3, hq, h⟩ := bnd_some h
    refine v_call hC [] rfl rfl rfl rfl Try.call108 (impl_PicOk_ac hq) rfl (by decide) trivial rfl (.inl rfl) rfl ?_
    refine v_op hT hC rfl rfl rfl rfl trivial ?_
    rcases sel_some h with ⟨hb1, h⟩ | ⟨hb1, h⟩
    · iterate 4 refine v_on hT hC rfl rfl rfl rfl hb1 rfl rfl rfl trivial ?_
      refine v_pick hC rfl rfl rfl (b := true) hb1 rfl rfl rfl trivial ?_
      refine v_op hT hC rfl rfl rfl rfl trivial ?_
      rcases sel_some h with ⟨hb2, h⟩ | ⟨hb2, h⟩
      · iterate 4 refine v_on hT hC rfl rfl rfl rfl hb2 rfl rfl rfl trivial ?_
        refine v_pick hC rfl rfl rfl (b := true) hb2 rfl rfl rfl trivial ?_
        refine v_op hT hC rfl rfl rfl rfl trivial ?_
        refine Vc.nil ?_
        injection h with h
        subst h
        refine m_norm ?_
        apply w_conv hC []
        · repeat' first | exact CO.nil | apply CO.gone | apply CO.row rfl rfl | apply CO.box rfl rfl | decide
        · rfl
        · decide
        · rfl
      · refine v_off hC rfl rfl rfl rfl hb2 rfl rfl ?_
        refine v_off hC rfl rfl rfl rfl hb2 rfl rfl ?_
        refine v_off hC rfl rfl rfl rfl hb2 rfl rfl ?_
        refine v_off hC rfl rfl rfl rfl hb2 rfl rfl ?_
        refine v_pick hC rfl rfl rfl (b := false) hb2 rfl rfl rfl trivial ?_
        refine v_op hT hC rfl rfl rfl rfl trivial ?_
        refine Vc.nil ?_
        injection h with h
        subst h
        refine m_norm ?_
        apply w_conv hC []
        · repeat' first | exact CO.nil | apply CO.gone | apply CO.row rfl rfl | apply CO.box rfl rfl | decide
        · rfl
        · decide
        · rfl
    · refine v_off hC rfl rfl rfl rfl hb1 rfl rfl ?_
      refine v_off hC rfl rfl rfl rfl hb1 rfl rfl ?_
      refine v_off hC rfl rfl rfl rfl hb1 rfl rfl ?_
      refine v_off hC rfl rfl rfl rfl hb1 rfl rfl ?_
      refine v_pick hC rfl rfl rfl (b := false) hb1 rfl rfl rfl trivial ?_
      refine v_op hT hC rfl rfl rfl rfl trivial ?_
      refine v_off hC rfl rfl rfl rfl rfl rfl rfl ?_
      refine v_off hC rfl rfl rfl rfl rfl rfl rfl ?_
      refine v_off hC rfl rfl rfl rfl rfl rfl rfl ?_
      refine v_off hC rfl rfl rfl rfl rfl rfl rfl ?_
      iterate 2 refine v_op hT hC rfl rfl rfl rfl trivial ?_
      refine Vc.nil ?_
      injection h with h
      subst h
      refine m_norm ?_
      apply w_conv hC []
      · repeat' first | exact CO.nil | apply CO.gone | apply CO.row rfl rfl | apply CO.box rfl rfl | decide
      · rfl
      · decide
      · rfl
  refine aw_ret ?_
  injection h with h
  subst h
  exact ends (Weak.refl _) rfl trivial
def impl_SourceOk_res (r : Bool) : AV := .sv (.bool r)
def impl_SourceOk_obs (r : Bool) : Objs := []
theorem impl_SourceOk_ac {p0 : Source} {r : Bool} (h : impl_SourceOk p0 = some r) : AC Try.prog 118 [.agg [.sv (.int .i64 p0.Seq.Level), .sv (.int .i64 p0.Seq.Bits), .sv (.ints .i64 p0.Seq.Cols), .sv (.ints .i64 p0.Seq.Rows), .sv (.int .i64 p0.Par.Qp), .sv (.bool p0.Par.Large), .sv (.bool p0.Par.Exact), .sv (.bool p0.Par.Confined), .sv (.int .i64 p0.Rate.Qp), .sv (.int .i64 p0.Rate.Target), .sv (.int .i64 p0.Rate.Debt), .sv (.int .i64 p0.Frame), .sv (.int .i64 p0.Since), .sv (.int .i64 p0.Every), .sv (.int .i64 p0.Reach), .sv (.bool p0.Has), .sv (.int .i64 p0.Ref.Wide), .sv (.int .i64 p0.Ref.High), .sv (.str p0.Ref.Dots)]] [] (impl_SourceOk_res r) (impl_SourceOk_obs r) := by
  refine ac_of_body hT Try.func118 rfl fun C hC => ?_
  unfold impl_SourceOk at h
  refine s_reg ?_
  iterate 2 refine v_op hT hC rfl rfl rfl rfl trivial ?_
  refine Vc.nil ?_
  refine s_in ?_
  refine live [1] [16] (s' := [_]) (o' := [_]) rfl rfl ?_
  obtain ⟨v1, h1, h⟩ := bnd_some h
  refine aw_to ([(47, .sv (.bool v1))], []) ?_ ?_
  · have h := h1
    refine aw_draw hm ?_
    iterate 2 refine v_op hT hC rfl rfl rfl rfl trivial ?_
    obtain ⟨q2, hq, h⟩ := bnd_some h
    refine v_call hC [] rfl rfl rfl rfl Try.call201 (impl_TilesOf_ac hq) rfl (by decide) trivial rfl (.inl rfl) rfl ?_
    iterate 2 refine v_op hT hC rfl rfl rfl rfl trivial ?_
    rcases sel_some h with ⟨hb1, h⟩ | ⟨hb1, h⟩
    · refine v_off hC rfl rfl rfl rfl hb1 rfl rfl ?_
      refine v_off hC rfl rfl rfl rfl hb1 rfl rfl ?_
      refine v_off hC rfl rfl rfl rfl hb1 rfl rfl ?_
      refine v_off hC rfl rfl rfl rfl hb1 rfl rfl ?_
      refine v_pick hC rfl rfl rfl (b := true) hb1 rfl rfl rfl trivial ?_
      refine v_op hT hC rfl rfl rfl rfl trivial ?_
      refine v_off hC rfl rfl rfl rfl rfl rfl rfl ?_
      refine v_off hC rfl rfl rfl rfl rfl rfl rfl ?_
      refine v_off hC rfl rfl rfl rfl rfl rfl rfl ?_
      refine v_off hC rfl rfl rfl rfl rfl rfl rfl ?_
      iterate 2 refine v_op hT hC rfl rfl rfl rfl trivial ?_
      refine v_off hC rfl rfl rfl rfl rfl rfl rfl ?_
      refine v_off hC rfl rfl rfl rfl rfl rfl rfl ?_
      refine v_off hC rfl rfl rfl rfl rfl rfl rfl ?_
      refine v_off hC rfl rfl rfl rfl rfl rfl rfl ?_
      refine v_off hC rfl rfl rfl rfl rfl rfl rfl ?_
      refine v_off hC rfl rfl rfl rfl rfl rfl rfl ?_
      refine v_off hC rfl rfl rfl rfl rfl rfl rfl ?_
      refine v_off hC rfl rfl rfl rfl rfl rfl rfl ?_
      refine v_off hC rfl rfl rfl rfl rfl rfl rfl ?_
      iterate 2 refine v_op hT hC rfl rfl rfl rfl trivial ?_
      refine v_off hC rfl rfl rfl rfl rfl rfl rfl ?_
      refine v_off hC rfl rfl rfl rfl rfl rfl rfl ?_
      refine v_off hC rfl rfl rfl rfl rfl rfl rfl ?_
      refine v_off hC rfl rfl rfl rfl rfl rfl rfl ?_
      iterate 2 refine v_op hT hC rfl rfl rfl rfl trivial ?_
      refine v_off hC rfl rfl rfl rfl rfl rfl rfl ?_
      refine v_off hC rfl rfl rfl rfl rfl rfl rfl ?_
      refine v_off hC rfl rfl rfl rfl rfl rfl rfl ?_
      refine v_off hC rfl rfl rfl rfl rfl rfl rfl ?_
      iterate 2 refine v_op hT hC rfl rfl rfl rfl trivial ?_
      refine v_off hC rfl rfl rfl rfl rfl rfl rfl ?_
      refine v_off hC rfl rfl rfl rfl rfl rfl rfl ?_
      refine v_off hC rfl rfl rfl rfl rfl rfl rfl ?_
      refine v_off hC rfl rfl rfl rfl rfl rfl rfl ?_
      refine v_op hT hC rfl rfl rfl rfl trivial ?_
      refine Vc.nil ⟨by kernel_rfl, ?_⟩
      injection h with h
      subst h
      refine m_norm ?_
      apply w_conv hC []
      · repeat' first | exact CO.nil | apply CO.gone | apply CO.row rfl rfl | apply CO.box rfl rfl | decide
      · rfl
      · decide
      · rfl
    · iterate 2 refine v_on hT hC rfl rfl rfl rfl hb1 rfl rfl rfl trivial ?_
      obtain ⟨q3, hq, h⟩ := bnd_some h
      refine v_call_on hC [] rfl rfl rfl rfl hb1 rfl rfl rfl Try.call176 (impl_ParOk_ac hq) rfl (by decide) trivial rfl (.inl rfl) rfl ?_
      refine v_on hT hC rfl rfl rfl rfl hb1 rfl rfl rfl trivial ?_
      refine v_pick hC rfl rfl rfl (b := false) hb1 rfl rfl rfl trivial ?_
      refine v_op hT hC rfl rfl rfl rfl trivial ?_
      rcases sel_some h with ⟨hb2, h⟩ | ⟨hb2, h⟩
      · iterate 2 refine v_on hT hC rfl rfl rfl rfl (congrArg Bool.not hb2) rfl rfl rfl trivial ?_
        obtain ⟨q4, hq, h⟩ := bnd_some h
        refine v_call_on hC [] rfl rfl rfl rfl (congrArg Bool.not hb2) rfl rfl rfl Try.call23 (impl_RateOk_ac hq) rfl (by decide) trivial rfl (.inl rfl) rfl ?_
        refine v_on hT hC rfl rfl rfl rfl (congrArg Bool.not hb2) rfl rfl rfl trivial ?_
        refine v_pick hC rfl rfl rfl (b := false) (congrArg Bool.not hb2) rfl rfl rfl trivial ?_
        refine v_op hT hC rfl rfl rfl rfl trivial ?_
        rcases sel_some h with ⟨hb3, h⟩ | ⟨hb3, h⟩
        · iterate 5 refine v_on hT hC rfl rfl rfl rfl (congrArg Bool.not hb3) rfl rfl rfl trivial ?_
          obtain ⟨hq, h⟩ := req_some h
          refine v_on hT hC rfl rfl rfl rfl (congrArg Bool.not hb3) rfl rfl rfl hq ?_
          refine v_on hT hC rfl rfl rfl rfl (congrArg Bool.not hb3) rfl rfl rfl trivial ?_
          obtain ⟨q5, hq, h⟩ := bnd_some h
          refine v_call_on hC [] rfl rfl rfl rfl (congrArg Bool.not hb3) rfl rfl rfl Try.call102 (impl_within_ac hq) rfl (by decide) trivial rfl (.inl rfl) rfl ?_
          refine v_on hT hC rfl rfl rfl rfl (congrArg Bool.not hb3) rfl rfl rfl trivial ?_
          refine v_pick hC rfl rfl rfl (b := false) (congrArg Bool.not hb3) rfl rfl rfl trivial ?_
          refine v_op hT hC rfl rfl rfl rfl trivial ?_
          rcases sel_some h with ⟨hb4, h⟩ | ⟨hb4, h⟩
          · iterate 2 refine v_on hT hC rfl rfl rfl rfl (congrArg Bool.not hb4) rfl rfl rfl trivial ?_
            obtain ⟨q6, hq, h⟩ := bnd_some h
            refine v_call_on hC [] rfl rfl rfl rfl (congrArg Bool.not hb4) rfl rfl rfl Try.call102 (impl_within_ac hq) rfl (by decide) trivial rfl (.inl rfl) rfl ?_
            refine v_on hT hC rfl rfl rfl rfl (congrArg Bool.not hb4) rfl rfl rfl trivial ?_
            refine v_pick hC rfl rfl rfl (b := false) (congrArg Bool.not hb4) rfl rfl rfl trivial ?_
            refine v_op hT hC rfl rfl rfl rfl trivial ?_
            rcases sel_some h with ⟨hb5, h⟩ | ⟨hb5, h⟩
            · iterate 2 refine v_on hT hC rfl rfl rfl rfl (congrArg Bool.not hb5) rfl rfl rfl trivial ?_
              obtain ⟨q7, hq, h⟩ := bnd_some h
              refine v_call_on hC [] rfl rfl rfl rfl (congrArg Bool.not hb5) rfl rfl rfl Try.call102 (impl_within_ac hq) rfl (by decide) trivial rfl (.inl rfl) rfl ?_
              refine v_on hT hC rfl rfl rfl rfl (congrArg Bool.not hb5) rfl rfl rfl trivial ?_
              refine v_pick hC rfl rfl rfl (b := false) (congrArg Bool.not hb5) rfl rfl rfl trivial ?_
              refine v_op hT hC rfl rfl rfl rfl trivial ?_
              rcases sel_some h with ⟨hb6, h⟩ | ⟨hb6, h⟩
              · iterate 2 refine v_on hT hC rfl rfl rfl rfl (congrArg Bool.not hb6) rfl rfl rfl trivial ?_
                obtain ⟨q8, hq, h⟩ := bnd_some h
                refine v_call_on hC [] rfl rfl rfl rfl (congrArg Bool.not hb6) rfl rfl rfl Try.call102 (impl_within_ac hq) rfl (by decide) trivial rfl (.inl rfl) rfl ?_
                refine v_on hT hC rfl rfl rfl rfl (congrArg Bool.not hb6) rfl rfl rfl trivial ?_
                refine v_pick hC rfl rfl rfl (b := false) (congrArg Bool.not hb6) rfl rfl rfl trivial ?_
                refine Vc.nil ⟨by kernel_rfl, ?_⟩
                injection h with h
                subst h
                refine m_norm ?_
                apply w_conv hC []
                · repeat' first | exact CO.nil | apply CO.gone | apply CO.row rfl rfl | apply CO.box rfl rfl | decide
                · rfl
                · decide
                · rfl
              · refine v_off hC rfl rfl rfl rfl (congrArg Bool.not hb6) rfl rfl ?_
                refine v_off hC rfl rfl rfl rfl (congrArg Bool.not hb6) rfl rfl ?_
                refine v_off hC rfl rfl rfl rfl (congrArg Bool.not hb6) rfl rfl ?_
                refine v_off hC rfl rfl rfl rfl (congrArg Bool.not hb6) rfl rfl ?_
                refine v_pick hC rfl rfl rfl (b := true) (congrArg Bool.not hb6) rfl rfl rfl trivial ?_
                refine Vc.nil ⟨by kernel_rfl, ?_⟩
                injection h with h
                subst h
                refine m_norm ?_
                apply w_conv hC []
                · repeat' first | exact CO.nil | apply CO.gone | apply CO.row rfl rfl | apply CO.box rfl rfl | decide
                · rfl
                · decide
                · rfl
            · refine v_off hC rfl rfl rfl rfl (congrArg Bool.not hb5) rfl rfl ?_
              refine v_off hC rfl rfl rfl rfl (congrArg Bool.not hb5) rfl rfl ?_
              refine v_off hC rfl rfl rfl rfl (congrArg Bool.not hb5) rfl rfl ?_
              refine v_off hC rfl rfl rfl rfl (congrArg Bool.not hb5) rfl rfl ?_
              refine v_pick hC rfl rfl rfl (b := true) (congrArg Bool.not hb5) rfl rfl rfl trivial ?_
              refine v_op hT hC rfl rfl rfl rfl trivial ?_
              refine v_off hC rfl rfl rfl rfl rfl rfl rfl ?_
              refine v_off hC rfl rfl rfl rfl rfl rfl rfl ?_
              refine v_off hC rfl rfl rfl rfl rfl rfl rfl ?_
              refine v_off hC rfl rfl rfl rfl rfl rfl rfl ?_
              refine v_op hT hC rfl rfl rfl rfl trivial ?_
              refine Vc.nil ⟨by kernel_rfl, ?_⟩
              injection h with h
              subst h
              refine m_norm ?_
              apply w_conv hC []
              · repeat' first | exact CO.nil | apply CO.gone | apply CO.row rfl rfl | apply CO.box rfl rfl | decide
              · rfl
              · decide
              · rfl
          · refine v_off hC rfl rfl rfl rfl (congrArg Bool.not hb4) rfl rfl ?_
            refine v_off hC rfl rfl rfl rfl (congrArg Bool.not hb4) rfl rfl ?_
            refine v_off hC rfl rfl rfl rfl (congrArg Bool.not hb4) rfl rfl ?_
            refine v_off hC rfl rfl rfl rfl (congrArg Bool.not hb4) rfl rfl ?_
            refine v_pick hC rfl rfl rfl (b := true) (congrArg Bool.not hb4) rfl rfl rfl trivial ?_
            refine v_op hT hC rfl rfl rfl rfl trivial ?_
            refine v_off hC rfl rfl rfl rfl rfl rfl rfl ?_
            refine v_off hC rfl rfl rfl rfl rfl rfl rfl ?_
            refine v_off hC rfl rfl rfl rfl rfl rfl rfl ?_
            refine v_off hC rfl rfl rfl rfl rfl rfl rfl ?_
            iterate 2 refine v_op hT hC rfl rfl rfl rfl trivial ?_
            refine v_off hC rfl rfl rfl rfl rfl rfl rfl ?_
            refine v_off hC rfl rfl rfl rfl rfl rfl rfl ?_
            refine v_off hC rfl rfl rfl rfl rfl rfl rfl ?_
            refine v_off hC rfl rfl rfl rfl rfl rfl rfl ?_
            refine v_op hT hC rfl rfl rfl rfl trivial ?_
            refine Vc.nil ⟨by kernel_rfl, ?_⟩
            injection h with h
            subst h
            refine m_norm ?_
            apply w_conv hC []
            · repeat' first | exact CO.nil | apply CO.gone | apply CO.row rfl rfl | apply CO.box rfl rfl | decide
            · rfl
            · decide
            · rfl
        · refine v_off hC rfl rfl rfl rfl (congrArg Bool.not hb3) rfl rfl ?_
          refine v_off hC rfl rfl rfl rfl (congrArg Bool.not hb3) rfl rfl ?_
          refine v_off hC rfl rfl rfl rfl (congrArg Bool.not hb3) rfl rfl ?_
          refine v_off hC rfl rfl rfl rfl (congrArg Bool.not hb3) rfl rfl ?_
          refine v_off hC rfl rfl rfl rfl (congrArg Bool.not hb3) rfl rfl ?_
          refine v_off hC rfl rfl rfl rfl (congrArg Bool.not hb3) rfl rfl ?_
          refine v_off hC rfl rfl rfl rfl (congrArg Bool.not hb3) rfl rfl ?_
          refine v_off hC rfl rfl rfl rfl (congrArg Bool.not hb3) rfl rfl ?_
          refine v_off hC rfl rfl rfl rfl (congrArg Bool.not hb3) rfl rfl ?_
          refine v_pick hC rfl rfl rfl (b := true) (congrArg Bool.not hb3) rfl rfl rfl trivial ?_
          refine v_op hT hC rfl rfl rfl rfl trivial ?_
          refine v_off hC rfl rfl rfl rfl rfl rfl rfl ?_
          refine v_off hC rfl rfl rfl rfl rfl rfl rfl ?_
          refine v_off hC rfl rfl rfl rfl rfl rfl rfl ?_
          refine v_off hC rfl rfl rfl rfl rfl rfl rfl ?_
          iterate 2 refine v_op hT hC rfl rfl rfl rfl trivial ?_
          refine v_off hC rfl rfl rfl rfl rfl rfl rfl ?_
          refine v_off hC rfl rfl rfl rfl rfl rfl rfl ?_
          refine v_off hC rfl rfl rfl rfl rfl rfl rfl ?_
          refine v_off hC rfl rfl rfl rfl rfl rfl rfl ?_
          iterate 2 refine v_op hT hC rfl rfl rfl rfl trivial ?_
          refine v_off hC rfl rfl rfl rfl rfl rfl rfl ?_
          refine v_off hC rfl rfl rfl rfl rfl rfl rfl ?_
          refine v_off hC rfl rfl rfl rfl rfl rfl rfl ?_
          refine v_off hC rfl rfl rfl rfl rfl rfl rfl ?_
          refine v_op hT hC rfl rfl rfl rfl trivial ?_
          refine Vc.nil ⟨by kernel_rfl, ?_⟩
          injection h with h
          subst h
          refine m_norm ?_
          apply w_conv hC []
          · repeat' first | exact CO.nil | apply CO.gone | apply CO.row rfl rfl | apply CO.box rfl rfl | decide
          · rfl
          · decide
          · rfl
      · refine v_off hC rfl rfl rfl rfl (congrArg Bool.not hb2) rfl rfl ?_
        refine v_off hC rfl rfl rfl rfl (congrArg Bool.not hb2) rfl rfl ?_
        refine v_off hC rfl rfl rfl rfl (congrArg Bool.not hb2) rfl rfl ?_
        refine v_off hC rfl rfl rfl rfl (congrArg Bool.not hb2) rfl rfl ?_
        refine v_pick hC rfl rfl rfl (b := true) (congrArg Bool.not hb2) rfl rfl rfl trivial ?_
        refine v_op hT hC rfl rfl rfl rfl trivial ?_
        refine v_off hC rfl rfl rfl rfl rfl rfl rfl ?_
        refine v_off hC rfl rfl rfl rfl rfl rfl rfl ?_
        refine v_off hC rfl rfl rfl rfl rfl rfl rfl ?_
        refine v_off hC rfl rfl rfl rfl rfl rfl rfl ?_
        refine v_off hC rfl rfl rfl rfl rfl rfl rfl ?_
        refine v_off hC rfl rfl rfl rfl rfl rfl rfl ?_
        refine v_off hC rfl rfl rfl rfl rfl rfl rfl ?_
        refine v_off hC rfl rfl rfl rfl rfl rfl rfl ?_
        refine v_off hC rfl rfl rfl rfl rfl rfl rfl ?_
        iterate 2 refine v_op hT hC rfl rfl rfl rfl trivial ?_
        refine v_off hC rfl rfl rfl rfl rfl rfl rfl ?_
        refine v_off hC rfl rfl rfl rfl rfl rfl rfl ?_
        refine v_off hC rfl rfl rfl rfl rfl rfl rfl ?_
        refine v_off hC rfl rfl rfl rfl rfl rfl rfl ?_
        iterate 2 refine v_op hT hC rfl rfl rfl rfl trivial ?_
        refine v_off hC rfl rfl rfl rfl rfl rfl rfl ?_
        refine v_off hC rfl rfl rfl rfl rfl rfl rfl ?_
        refine v_off hC rfl rfl rfl rfl rfl rfl rfl ?_
        refine v_off hC rfl rfl rfl rfl rfl rfl rfl ?_
        iterate 2 refine v_op hT hC rfl rfl rfl rfl trivial ?_
        refine v_off hC rfl rfl rfl rfl rfl rfl rfl ?_
        refine v_off hC rfl rfl rfl rfl rfl rfl rfl ?_
        refine v_off hC rfl rfl rfl rfl rfl rfl rfl ?_
        refine v_off hC rfl rfl rfl rfl rfl rfl rfl ?_
        refine v_op hT hC rfl rfl rfl rfl trivial ?_
        refine Vc.nil ⟨by kernel_rfl, ?_⟩
        injection h with h
        subst h
        refine m_norm ?_
        apply w_conv hC []
        · repeat' first | exact CO.nil | apply CO.gone | apply CO.row rfl rfl | apply CO.box rfl rfl | decide
        · rfl
        · decide
        · rfl
  rcases sel_some h with ⟨hb7, h⟩ | ⟨hb7, h⟩
  · refine s_true rfl hb7 ?_
    refine s_reg ?_
    refine v_op hT hC rfl rfl rfl rfl trivial ?_
    refine Vc.nil ?_
    refine aw_ret ?_
    refine t_ret ?_
    injection h with h
    subst h
    exact ends (Weak.refl _) rfl trivial
  · refine s_false rfl hb7 ?_
    refine aw_skip ?_
    refine t_norm ?_
    refine s_in ?_
    refine s_reg ?_
    iterate 2 refine v_op hT hC rfl rfl rfl rfl trivial ?_
    refine Vc.nil ?_
    rcases sel_some h with ⟨hb8, h⟩ | ⟨hb8, h⟩
    · refine s_true rfl hb8 ?_
      refine s_reg ?_
      iterate 4 refine v_op hT hC rfl rfl rfl rfl trivial ?_
      obtain ⟨q9, hq, h⟩ := bnd_some h
      refine v_call hC [] rfl rfl rfl rfl Try.call202 (impl_fits_ac hq) rfl (by decide) trivial rfl (.inl rfl) rfl ?_
      refine v_op hT hC rfl rfl rfl rfl trivial ?_
      refine Vc.nil ?_
      refine aw_ret ?_
      refine t_ret ?_
      injection h with h
      subst h
      exact ends (Weak.refl _) rfl trivial
    · refine s_false rfl hb8 ?_
      refine aw_skip ?_
      refine t_norm ?_
      refine s_reg ?_
      iterate 3 refine v_op hT hC rfl rfl rfl rfl trivial ?_
      refine v_eq hC rfl rfl rfl rfl eq_t35 rfl rfl ?_
      refine v_op hT hC rfl rfl rfl rfl trivial ?_
      refine Vc.nil ?_
      refine aw_ret ?_
      injection h with h
      subst h
      exact ends (Weak.refl _) rfl trivial
def laws_eqIntS_res (r : Bool) : AV := .sv (.bool r)
def laws_eqIntS_obs (r : Bool) : Objs := []
theorem laws_eqIntS_ac {p0 : (List Int)} {p1 : (List Int)} {r : Bool} (h : laws_eqIntS p0 p1 = some r) : AC Try.prog 203 [.sv (.ints .i64 p0), .sv (.ints .i64 p1)] [] (laws_eqIntS_res r) (laws_eqIntS_obs r) := by
  refine ac_of_body hT Try.func203 rfl fun C hC => ?_
  unfold laws_eqIntS at h
  refine s_reg ?_
  refine v_op hT hC rfl rfl rfl rfl trivial ?_
  refine Vc.nil ?_
  refine s_in ?_
  refine s_reg ?_
  iterate 5 refine v_op hT hC rfl rfl rfl rfl trivial ?_
  refine Vc.nil ?_
  rcases sel_some h with ⟨hb1, h⟩ | ⟨hb1, h⟩
  · refine s_true rfl hb1 ?_
    refine s_reg ?_
    refine v_op hT hC rfl rfl rfl rfl trivial ?_
    refine Vc.nil ?_
    refine aw_ret ?_
    refine t_ret ?_
    injection h with h
    subst h
    exact ends (Weak.refl _) rfl trivial
  · refine s_false rfl hb1 ?_
    refine aw_skip ?_
    refine t_norm ?_
    refine s_in ?_
    refine s_reg ?_
    refine v_op hT hC rfl rfl rfl rfl trivial ?_
    refine Vc.nil ?_
    refine live [0, 1, 5] [] (s' := [_, _, _]) (o' := []) rfl rfl ?_
    obtain ⟨o5, hl, h⟩ := bnd_some h
    refine s_loopR (fun v2 => ([(5, .sv (.int .i64 v2))], [])) (fun v4 => ([(0, .any), (1, .any), (5, .any)], [])) (fun r => EndsA C T Try.f203.results.toList (laws_eqIntS_res r) (laws_eqIntS_obs r)) hl ?_ ?_ ?_ ?_
    · apply w_conv hC []
      · repeat' first | exact CO.nil | apply CO.gone | apply CO.row rfl rfl | apply CO.box rfl rfl | decide
      · rfl
      · decide
      · rfl
    · intro v2 s hs
      have h := hs
      unfold laws_eqIntS_l2 at h
      refine s_in ?_
      refine s_reg ?_
      iterate 4 refine v_op hT hC rfl rfl rfl rfl trivial ?_
      refine Vc.nil ?_
      rcases sel_some h with ⟨hb6, h⟩ | ⟨hb6, h⟩
      · refine s_true rfl hb6 ?_
        refine aw_skip ?_
        refine t_norm ?_
        refine s_in ?_
        refine s_block ?_
        refine s_draw hm ?_
        iterate 2 refine v_op hT hC rfl rfl rfl rfl trivial ?_
        obtain ⟨hq, h⟩ := req_some h
        refine v_op hT hC rfl rfl rfl rfl hq ?_
        iterate 3 refine v_op hT hC rfl rfl rfl rfl trivial ?_
        obtain ⟨hq, h⟩ := req_some h
        refine v_op hT hC rfl rfl rfl rfl hq ?_
        iterate 2 refine v_op hT hC rfl rfl rfl rfl trivial ?_
        refine Vc.nil ⟨by kernel_rfl, ?_⟩
        rcases sel_some h with ⟨hb7, h⟩ | ⟨hb7, h⟩
        · refine s_true rfl hb7 ?_
          refine s_reg ?_
          refine v_op hT hC rfl rfl rfl rfl trivial ?_
          refine Vc.nil ?_
          refine aw_ret ?_
          refine b_ret ?_
          refine t_ret ?_
          injection h with h
          subst h
          refine r_ret ?_
          refine o_ret ?_
          exact ends (Weak.refl _) rfl trivial
        · refine s_false rfl hb7 ?_
          refine aw_skip ?_
          refine b_norm ?_
          refine t_norm ?_
          refine aw_region ?_
          iterate 3 refine v_op hT hC rfl rfl rfl rfl trivial ?_
          refine Vc.nil ?_
          injection h with h
          subst h
          refine r_go ?_
          apply w_conv hC []
          · repeat' first | exact CO.nil | apply CO.gone | apply CO.row rfl rfl | apply CO.box rfl rfl | decide
          · rfl
          · decide
          · rfl
      · refine s_false rfl hb6 ?_
        refine aw_exit ?_
        refine t_exit ?_
        injection h with h
        subst h
        refine r_exit ?_
        refine o_both ?_
        apply w_conv hC []
        · repeat' first | exact CO.nil | apply CO.gone | apply CO.row rfl rfl | apply CO.box rfl rfl | decide
        · rfl
        · decide
        · rfl
    · intro v4 e
      subst e
      refine t_norm ?_
      refine s_reg ?_
      refine v_op hT hC rfl rfl rfl rfl trivial ?_
      refine Vc.nil ?_
      refine aw_ret ?_
      injection h with h
      subst h
      exact ends (Weak.refl _) rfl trivial
    · intro r' σ' e hE
      subst e
      injection h with h
      subst h
      refine t_ret ?_
      exact hE
def laws_eqSeq_res (r : Bool) : AV := .sv (.bool r)
def laws_eqSeq_obs (r : Bool) : Objs := []
theorem laws_eqSeq_ac {p0 : Seq} {p1 : Seq} {r : Bool} (h : laws_eqSeq p0 p1 = some r) : AC Try.prog 119 [.agg [.sv (.int .i64 p0.Level), .sv (.int .i64 p0.Bits), .sv (.ints .i64 p0.Cols), .sv (.ints .i64 p0.Rows)], .agg [.sv (.int .i64 p1.Level), .sv (.int .i64 p1.Bits), .sv (.ints .i64 p1.Cols), .sv (.ints .i64 p1.Rows)]] [] (laws_eqSeq_res r) (laws_eqSeq_obs r) := by
  refine ac_of_body hT Try.func119 rfl fun C hC => ?_
  unfold laws_eqSeq at h
  refine s_reg ?_
  iterate 3 refine v_op hT hC rfl rfl rfl rfl trivial ?_
  refine Vc.nil ?_
  refine s_in ?_
  refine s_reg ?_
  iterate 5 refine v_op hT hC rfl rfl rfl rfl trivial ?_
  refine Vc.nil ?_
  rcases sel_some h with ⟨hb1, h⟩ | ⟨hb1, h⟩
  · refine s_true rfl hb1 ?_
    refine s_reg ?_
    refine v_op hT hC rfl rfl rfl rfl trivial ?_
    refine Vc.nil ?_
    refine aw_ret ?_
    refine t_ret ?_
    injection h with h
    subst h
    exact ends (Weak.refl _) rfl trivial
  · refine s_false rfl hb1 ?_
    refine aw_skip ?_
    refine t_norm ?_
    refine s_in ?_
    refine s_reg ?_
    iterate 5 refine v_op hT hC rfl rfl rfl rfl trivial ?_
    refine Vc.nil ?_
    rcases sel_some h with ⟨hb2, h⟩ | ⟨hb2, h⟩
    · refine s_true rfl hb2 ?_
      refine s_reg ?_
      refine v_op hT hC rfl rfl rfl rfl trivial ?_
      refine Vc.nil ?_
      refine aw_ret ?_
      refine t_ret ?_
      injection h with h
      subst h
      exact ends (Weak.refl _) rfl trivial
    · refine s_false rfl hb2 ?_
      refine aw_skip ?_
      refine t_norm ?_
      refine s_in ?_
      refine s_reg ?_
      iterate 4 refine v_op hT hC rfl rfl rfl rfl trivial ?_
      obtain ⟨q1, hq, h⟩ := bnd_some h
      refine v_call hC [] rfl rfl rfl rfl Try.call203 (laws_eqIntS_ac hq) rfl (by decide) trivial rfl (.inl rfl) rfl ?_
      refine v_op hT hC rfl rfl rfl rfl trivial ?_
      refine Vc.nil ?_
      rcases sel_some h with ⟨hb3, h⟩ | ⟨hb3, h⟩
      · refine s_true rfl hb3 ?_
        refine s_reg ?_
        refine v_op hT hC rfl rfl rfl rfl trivial ?_
        refine Vc.nil ?_
        refine aw_ret ?_
        refine t_ret ?_
        injection h with h
        subst h
        exact ends (Weak.refl _) rfl trivial
      · refine s_false rfl hb3 ?_
        refine aw_skip ?_
        refine t_norm ?_
        refine s_in ?_
        refine s_reg ?_
        iterate 4 refine v_op hT hC rfl rfl rfl rfl trivial ?_
        obtain ⟨q2, hq, h⟩ := bnd_some h
        refine v_call hC [] rfl rfl rfl rfl Try.call203 (laws_eqIntS_ac hq) rfl (by decide) trivial rfl (.inl rfl) rfl ?_
        refine v_op hT hC rfl rfl rfl rfl trivial ?_
        refine Vc.nil ?_
        rcases sel_some h with ⟨hb4, h⟩ | ⟨hb4, h⟩
        · refine s_true rfl hb4 ?_
          refine s_reg ?_
          refine v_op hT hC rfl rfl rfl rfl trivial ?_
          refine Vc.nil ?_
          refine aw_ret ?_
          refine t_ret ?_
          injection h with h
          subst h
          exact ends (Weak.refl _) rfl trivial
        · refine s_false rfl hb4 ?_
          refine aw_skip ?_
          refine t_norm ?_
          refine s_reg ?_
          refine v_op hT hC rfl rfl rfl rfl trivial ?_
          refine Vc.nil ?_
          refine aw_ret ?_
          injection h with h
          subst h
          exact ends (Weak.refl _) rfl trivial
def laws_eqPar_res (r : Bool) : AV := .sv (.bool r)
def laws_eqPar_obs (r : Bool) : Objs := []
theorem laws_eqPar_ac {p0 : Par} {p1 : Par} {r : Bool} (h : laws_eqPar p0 p1 = some r) : AC Try.prog 120 [.agg [.sv (.int .i64 p0.Qp), .sv (.bool p0.Large), .sv (.bool p0.Exact), .sv (.bool p0.Confined)], .agg [.sv (.int .i64 p1.Qp), .sv (.bool p1.Large), .sv (.bool p1.Exact), .sv (.bool p1.Confined)]] [] (laws_eqPar_res r) (laws_eqPar_obs r) := by
  refine ac_of_body hT Try.func120 rfl fun C hC => ?_
  unfold laws_eqPar at h
  refine s_reg ?_
  iterate 3 refine v_op hT hC rfl rfl rfl rfl trivial ?_
  refine Vc.nil ?_
  refine s_in ?_
  refine s_reg ?_
  iterate 5 refine v_op hT hC rfl rfl rfl rfl trivial ?_
  refine Vc.nil ?_
  rcases sel_some h with ⟨hb1, h⟩ | ⟨hb1, h⟩
  · refine s_true rfl hb1 ?_
    refine s_reg ?_
    refine v_op hT hC rfl rfl rfl rfl trivial ?_
    refine Vc.nil ?_
    refine aw_ret ?_
    refine t_ret ?_
    injection h with h
    subst h
    exact ends (Weak.refl _) rfl trivial
  · refine s_false rfl hb1 ?_
    refine aw_skip ?_
    refine t_norm ?_
    refine s_in ?_
    refine s_reg ?_
    iterate 5 refine v_op hT hC rfl rfl rfl rfl trivial ?_
    refine Vc.nil ?_
    rcases sel_some h with ⟨hb2, h⟩ | ⟨hb2, h⟩
    · refine s_true rfl hb2 ?_
      refine s_reg ?_
      refine v_op hT hC rfl rfl rfl rfl trivial ?_
      refine Vc.nil ?_
      refine aw_ret ?_
      refine t_ret ?_
      injection h with h
      subst h
      exact ends (Weak.refl _) rfl trivial
    · refine s_false rfl hb2 ?_
      refine aw_skip ?_
      refine t_norm ?_
      refine s_in ?_
      refine s_reg ?_
      iterate 5 refine v_op hT hC rfl rfl rfl rfl trivial ?_
      refine Vc.nil ?_
      rcases sel_some h with ⟨hb3, h⟩ | ⟨hb3, h⟩
      · refine s_true rfl hb3 ?_
        refine s_reg ?_
        refine v_op hT hC rfl rfl rfl rfl trivial ?_
        refine Vc.nil ?_
        refine aw_ret ?_
        refine t_ret ?_
        injection h with h
        subst h
        exact ends (Weak.refl _) rfl trivial
      · refine s_false rfl hb3 ?_
        refine aw_skip ?_
        refine t_norm ?_
        refine s_in ?_
        refine s_reg ?_
        iterate 5 refine v_op hT hC rfl rfl rfl rfl trivial ?_
        refine Vc.nil ?_
        rcases sel_some h with ⟨hb4, h⟩ | ⟨hb4, h⟩
        · refine s_true rfl hb4 ?_
          refine s_reg ?_
          refine v_op hT hC rfl rfl rfl rfl trivial ?_
          refine Vc.nil ?_
          refine aw_ret ?_
          refine t_ret ?_
          injection h with h
          subst h
          exact ends (Weak.refl _) rfl trivial
        · refine s_false rfl hb4 ?_
          refine aw_skip ?_
          refine t_norm ?_
          refine s_reg ?_
          refine v_op hT hC rfl rfl rfl rfl trivial ?_
          refine Vc.nil ?_
          refine aw_ret ?_
          injection h with h
          subst h
          exact ends (Weak.refl _) rfl trivial
def laws_eqRate_res (r : Bool) : AV := .sv (.bool r)
def laws_eqRate_obs (r : Bool) : Objs := []
theorem laws_eqRate_ac {p0 : Rate} {p1 : Rate} {r : Bool} (h : laws_eqRate p0 p1 = some r) : AC Try.prog 121 [.agg [.sv (.int .i64 p0.Qp), .sv (.int .i64 p0.Target), .sv (.int .i64 p0.Debt)], .agg [.sv (.int .i64 p1.Qp), .sv (.int .i64 p1.Target), .sv (.int .i64 p1.Debt)]] [] (laws_eqRate_res r) (laws_eqRate_obs r) := by
  refine ac_of_body hT Try.func121 rfl fun C hC => ?_
  unfold laws_eqRate at h
  refine s_reg ?_
  iterate 3 refine v_op hT hC rfl rfl rfl rfl trivial ?_
  refine Vc.nil ?_
  refine s_in ?_
  refine s_reg ?_
  iterate 5 refine v_op hT hC rfl rfl rfl rfl trivial ?_
  refine Vc.nil ?_
  rcases sel_some h with ⟨hb1, h⟩ | ⟨hb1, h⟩
  · refine s_true rfl hb1 ?_
    refine s_reg ?_
    refine v_op hT hC rfl rfl rfl rfl trivial ?_
    refine Vc.nil ?_
    refine aw_ret ?_
    refine t_ret ?_
    injection h with h
    subst h
    exact ends (Weak.refl _) rfl trivial
  · refine s_false rfl hb1 ?_
    refine aw_skip ?_
    refine t_norm ?_
    refine s_in ?_
    refine s_reg ?_
    iterate 5 refine v_op hT hC rfl rfl rfl rfl trivial ?_
    refine Vc.nil ?_
    rcases sel_some h with ⟨hb2, h⟩ | ⟨hb2, h⟩
    · refine s_true rfl hb2 ?_
      refine s_reg ?_
      refine v_op hT hC rfl rfl rfl rfl trivial ?_
      refine Vc.nil ?_
      refine aw_ret ?_
      refine t_ret ?_
      injection h with h
      subst h
      exact ends (Weak.refl _) rfl trivial
    · refine s_false rfl hb2 ?_
      refine aw_skip ?_
      refine t_norm ?_
      refine s_in ?_
      refine s_reg ?_
      iterate 5 refine v_op hT hC rfl rfl rfl rfl trivial ?_
      refine Vc.nil ?_
      rcases sel_some h with ⟨hb3, h⟩ | ⟨hb3, h⟩
      · refine s_true rfl hb3 ?_
        refine s_reg ?_
        refine v_op hT hC rfl rfl rfl rfl trivial ?_
        refine Vc.nil ?_
        refine aw_ret ?_
        refine t_ret ?_
        injection h with h
        subst h
        exact ends (Weak.refl _) rfl trivial
      · refine s_false rfl hb3 ?_
        refine aw_skip ?_
        refine t_norm ?_
        refine s_reg ?_
        refine v_op hT hC rfl rfl rfl rfl trivial ?_
        refine Vc.nil ?_
        refine aw_ret ?_
        injection h with h
        subst h
        exact ends (Weak.refl _) rfl trivial
def laws_eqPic_res (r : Bool) : AV := .sv (.bool r)
def laws_eqPic_obs (r : Bool) : Objs := []
theorem laws_eqPic_ac {p0 : Pic} {p1 : Pic} {r : Bool} (h : laws_eqPic p0 p1 = some r) : AC Try.prog 96 [.agg [.sv (.int .i64 p0.Wide), .sv (.int .i64 p0.High), .sv (.str p0.Dots)], .agg [.sv (.int .i64 p1.Wide), .sv (.int .i64 p1.High), .sv (.str p1.Dots)]] [] (laws_eqPic_res r) (laws_eqPic_obs r) := by
  refine ac_of_body hT Try.func96 rfl fun C hC => ?_
  unfold laws_eqPic at h
  refine s_reg ?_
  iterate 3 refine v_op hT hC rfl rfl rfl rfl trivial ?_
  refine Vc.nil ?_
  refine s_in ?_
  refine s_reg ?_
  iterate 5 refine v_op hT hC rfl rfl rfl rfl trivial ?_
  refine Vc.nil ?_
  rcases sel_some h with ⟨hb1, h⟩ | ⟨hb1, h⟩
  · refine s_true rfl hb1 ?_
    refine s_reg ?_
    refine v_op hT hC rfl rfl rfl rfl trivial ?_
    refine Vc.nil ?_
    refine aw_ret ?_
    refine t_ret ?_
    injection h with h
    subst h
    exact ends (Weak.refl _) rfl trivial
  · refine s_false rfl hb1 ?_
    refine aw_skip ?_
    refine t_norm ?_
    refine s_in ?_
    refine s_reg ?_
    iterate 5 refine v_op hT hC rfl rfl rfl rfl trivial ?_
    refine Vc.nil ?_
    rcases sel_some h with ⟨hb2, h⟩ | ⟨hb2, h⟩
    · refine s_true rfl hb2 ?_
      refine s_reg ?_
      refine v_op hT hC rfl rfl rfl rfl trivial ?_
      refine Vc.nil ?_
      refine aw_ret ?_
      refine t_ret ?_
      injection h with h
      subst h
      exact ends (Weak.refl _) rfl trivial
    · refine s_false rfl hb2 ?_
      refine aw_skip ?_
      refine t_norm ?_
      refine s_in ?_
      refine s_reg ?_
      iterate 5 refine v_op hT hC rfl rfl rfl rfl trivial ?_
      refine Vc.nil ?_
      rcases sel_some h with ⟨hb3, h⟩ | ⟨hb3, h⟩
      · refine s_true rfl hb3 ?_
        refine s_reg ?_
        refine v_op hT hC rfl rfl rfl rfl trivial ?_
        refine Vc.nil ?_
        refine aw_ret ?_
        refine t_ret ?_
        injection h with h
        subst h
        exact ends (Weak.refl _) rfl trivial
      · refine s_false rfl hb3 ?_
        refine aw_skip ?_
        refine t_norm ?_
        refine s_reg ?_
        refine v_op hT hC rfl rfl rfl rfl trivial ?_
        refine Vc.nil ?_
        refine aw_ret ?_
        injection h with h
        subst h
        exact ends (Weak.refl _) rfl trivial
def laws_eqSource_res (r : Bool) : AV := .sv (.bool r)
def laws_eqSource_obs (r : Bool) : Objs := []
theorem laws_eqSource_ac {p0 : Source} {p1 : Source} {r : Bool} (h : laws_eqSource p0 p1 = some r) : AC Try.prog 35 [.agg [.sv (.int .i64 p0.Seq.Level), .sv (.int .i64 p0.Seq.Bits), .sv (.ints .i64 p0.Seq.Cols), .sv (.ints .i64 p0.Seq.Rows), .sv (.int .i64 p0.Par.Qp), .sv (.bool p0.Par.Large), .sv (.bool p0.Par.Exact), .sv (.bool p0.Par.Confined), .sv (.int .i64 p0.Rate.Qp), .sv (.int .i64 p0.Rate.Target), .sv (.int .i64 p0.Rate.Debt), .sv (.int .i64 p0.Frame), .sv (.int .i64 p0.Since), .sv (.int .i64 p0.Every), .sv (.int .i64 p0.Reach), .sv (.bool p0.Has), .sv (.int .i64 p0.Ref.Wide), .sv (.int .i64 p0.Ref.High), .sv (.str p0.Ref.Dots)], .agg [.sv (.int .i64 p1.Seq.Level), .sv (.int .i64 p1.Seq.Bits), .sv (.ints .i64 p1.Seq.Cols), .sv (.ints .i64 p1.Seq.Rows), .sv (.int .i64 p1.Par.Qp), .sv (.bool p1.Par.Large), .sv (.bool p1.Par.Exact), .sv (.bool p1.Par.Confined), .sv (.int .i64 p1.Rate.Qp), .sv (.int .i64 p1.Rate.Target), .sv (.int .i64 p1.Rate.Debt), .sv (.int .i64 p1.Frame), .sv (.int .i64 p1.Since), .sv (.int .i64 p1.Every), .sv (.int .i64 p1.Reach), .sv (.bool p1.Has), .sv (.int .i64 p1.Ref.Wide), .sv (.int .i64 p1.Ref.High), .sv (.str p1.Ref.Dots)]] [] (laws_eqSource_res r) (laws_eqSource_obs r) := by
  refine ac_of_body hT Try.func35 rfl fun C hC => ?_
  unfold laws_eqSource at h
  refine s_reg ?_
  iterate 3 refine v_op hT hC rfl rfl rfl rfl trivial ?_
  refine Vc.nil ?_
  refine s_in ?_
  refine s_reg ?_
  iterate 4 refine v_op hT hC rfl rfl rfl rfl trivial ?_
  obtain ⟨q1, hq, h⟩ := bnd_some h
  refine v_call hC [] rfl rfl rfl rfl Try.call119 (laws_eqSeq_ac hq) rfl (by decide) trivial rfl (.inl rfl) rfl ?_
  refine v_op hT hC rfl rfl rfl rfl trivial ?_
  refine Vc.nil ?_
  rcases sel_some h with ⟨hb1, h⟩ | ⟨hb1, h⟩
  · refine s_true rfl hb1 ?_
    refine s_reg ?_
    refine v_op hT hC rfl rfl rfl rfl trivial ?_
    refine Vc.nil ?_
    refine aw_ret ?_
    refine t_ret ?_
    injection h with h
    subst h
    exact ends (Weak.refl _) rfl trivial
  · refine s_false rfl hb1 ?_
    refine aw_skip ?_
    refine t_norm ?_
    refine s_in ?_
    refine s_reg ?_
    iterate 4 refine v_op hT hC rfl rfl rfl rfl trivial ?_
    obtain ⟨q2, hq, h⟩ := bnd_some h
    refine v_call hC [] rfl rfl rfl rfl Try.call120 (laws_eqPar_ac hq) rfl (by decide) trivial rfl (.inl rfl) rfl ?_
    refine v_op hT hC rfl rfl rfl rfl trivial ?_
    refine Vc.nil ?_
    rcases sel_some h with ⟨hb2, h⟩ | ⟨hb2, h⟩
    · refine s_true rfl hb2 ?_
      refine s_reg ?_
      refine v_op hT hC rfl rfl rfl rfl trivial ?_
      refine Vc.nil ?_
      refine aw_ret ?_
      refine t_ret ?_
      injection h with h
      subst h
      exact ends (Weak.refl _) rfl trivial
    · refine s_false rfl hb2 ?_
      refine aw_skip ?_
      refine t_norm ?_
      refine s_in ?_
      refine s_reg ?_
      iterate 4 refine v_op hT hC rfl rfl rfl rfl trivial ?_
      obtain ⟨q3, hq, h⟩ := bnd_some h
      refine v_call hC [] rfl rfl rfl rfl Try.call121 (laws_eqRate_ac hq) rfl (by decide) trivial rfl (.inl rfl) rfl ?_
      refine v_op hT hC rfl rfl rfl rfl trivial ?_
      refine Vc.nil ?_
      rcases sel_some h with ⟨hb3, h⟩ | ⟨hb3, h⟩
      · refine s_true rfl hb3 ?_
        refine s_reg ?_
        refine v_op hT hC rfl rfl rfl rfl trivial ?_
        refine Vc.nil ?_
        refine aw_ret ?_
        refine t_ret ?_
        injection h with h
        subst h
        exact ends (Weak.refl _) rfl trivial
      · refine s_false rfl hb3 ?_
        refine aw_skip ?_
        refine t_norm ?_
        refine s_in ?_
        refine s_reg ?_
        iterate 5 refine v_op hT hC rfl rfl rfl rfl trivial ?_
        refine Vc.nil ?_
        rcases sel_some h with ⟨hb4, h⟩ | ⟨hb4, h⟩
        · refine s_true rfl hb4 ?_
          refine s_reg ?_
          refine v_op hT hC rfl rfl rfl rfl trivial ?_
          refine Vc.nil ?_
          refine aw_ret ?_
          refine t_ret ?_
          injection h with h
          subst h
          exact ends (Weak.refl _) rfl trivial
        · refine s_false rfl hb4 ?_
          refine aw_skip ?_
          refine t_norm ?_
          refine s_in ?_
          refine s_reg ?_
          iterate 5 refine v_op hT hC rfl rfl rfl rfl trivial ?_
          refine Vc.nil ?_
          rcases sel_some h with ⟨hb5, h⟩ | ⟨hb5, h⟩
          · refine s_true rfl hb5 ?_
            refine s_reg ?_
            refine v_op hT hC rfl rfl rfl rfl trivial ?_
            refine Vc.nil ?_
            refine aw_ret ?_
            refine t_ret ?_
            injection h with h
            subst h
            exact ends (Weak.refl _) rfl trivial
          · refine s_false rfl hb5 ?_
            refine aw_skip ?_
            refine t_norm ?_
            refine s_in ?_
            refine s_reg ?_
            iterate 5 refine v_op hT hC rfl rfl rfl rfl trivial ?_
            refine Vc.nil ?_
            rcases sel_some h with ⟨hb6, h⟩ | ⟨hb6, h⟩
            · refine s_true rfl hb6 ?_
              refine s_reg ?_
              refine v_op hT hC rfl rfl rfl rfl trivial ?_
              refine Vc.nil ?_
              refine aw_ret ?_
              refine t_ret ?_
              injection h with h
              subst h
              exact ends (Weak.refl _) rfl trivial
            · refine s_false rfl hb6 ?_
              refine aw_skip ?_
              refine t_norm ?_
              refine s_in ?_
              refine s_reg ?_
              iterate 5 refine v_op hT hC rfl rfl rfl rfl trivial ?_
              refine Vc.nil ?_
              rcases sel_some h with ⟨hb7, h⟩ | ⟨hb7, h⟩
              · refine s_true rfl hb7 ?_
                refine s_reg ?_
                refine v_op hT hC rfl rfl rfl rfl trivial ?_
                refine Vc.nil ?_
                refine aw_ret ?_
                refine t_ret ?_
                injection h with h
                subst h
                exact ends (Weak.refl _) rfl trivial
              · refine s_false rfl hb7 ?_
                refine aw_skip ?_
                refine t_norm ?_
                refine s_in ?_
                refine s_reg ?_
                iterate 5 refine v_op hT hC rfl rfl rfl rfl trivial ?_
                refine Vc.nil ?_
                rcases sel_some h with ⟨hb8, h⟩ | ⟨hb8, h⟩
                · refine s_true rfl hb8 ?_
                  refine s_reg ?_
                  refine v_op hT hC rfl rfl rfl rfl trivial ?_
                  refine Vc.nil ?_
                  refine aw_ret ?_
                  refine t_ret ?_
                  injection h with h
                  subst h
                  exact ends (Weak.refl _) rfl trivial
                · refine s_false rfl hb8 ?_
                  refine aw_skip ?_
                  refine t_norm ?_
                  refine s_in ?_
                  refine s_reg ?_
                  iterate 4 refine v_op hT hC rfl rfl rfl rfl trivial ?_
                  obtain ⟨q4, hq, h⟩ := bnd_some h
                  refine v_call hC [] rfl rfl rfl rfl Try.call96 (laws_eqPic_ac hq) rfl (by decide) trivial rfl (.inl rfl) rfl ?_
                  refine v_op hT hC rfl rfl rfl rfl trivial ?_
                  refine Vc.nil ?_
                  rcases sel_some h with ⟨hb9, h⟩ | ⟨hb9, h⟩
                  · refine s_true rfl hb9 ?_
                    refine s_reg ?_
                    refine v_op hT hC rfl rfl rfl rfl trivial ?_
                    refine Vc.nil ?_
                    refine aw_ret ?_
                    refine t_ret ?_
                    injection h with h
                    subst h
                    exact ends (Weak.refl _) rfl trivial
                  · refine s_false rfl hb9 ?_
                    refine aw_skip ?_
                    refine t_norm ?_
                    refine s_reg ?_
                    refine v_op hT hC rfl rfl rfl rfl trivial ?_
                    refine Vc.nil ?_
                    refine aw_ret ?_
                    injection h with h
                    subst h
                    exact ends (Weak.refl _) rfl trivial
def laws_markIntS_res (r : (Int × (List Int))) : AV := .sv (.int .i64 r.1)
def laws_markIntS_obs (r : (Int × (List Int))) : Objs := [(0, .ints .i64 r.2)]
theorem laws_markIntS_ac {p0 : (List Int)} {p1 : Int} {r : (Int × (List Int))} (h : laws_markIntS p0 p1 = some r) : AC Try.prog 204 [.own 0, .sv (.int .i64 p1)] [(0, .ints .i64 p0)] (laws_markIntS_res r) (laws_markIntS_obs r) := by
  refine ac_of_body hT Try.func204 rfl fun C hC => ?_
  unfold laws_markIntS at h
  refine s_reg ?_
  refine v_op hT hC rfl rfl rfl rfl trivial ?_
  refine Vc.nil ?_
  refine s_in ?_
  refine s_reg ?_
  refine v_op hT hC rfl rfl rfl rfl trivial ?_
  refine Vc.nil ?_
  refine live [0, 1, 5] [0] (s' := [_, _, _]) (o' := [_]) rfl rfl ?_
  obtain ⟨v4, hl, h⟩ := bnd_some h
  refine s_loop (fun v2 => ([(1, .sv (.int .i64 v2.1)), (5, .sv (.int .i64 v2.2.1))], [(0, some (.ints .i64 v2.2.2))])) (fun v4 => ([(1, .sv (.int .i64 v4.1)), (0, .any), (5, .any)], [(0, some (.ints .i64 v4.2))])) hl ?_ ?_ ?_
  · try dsimp only
    apply w_conv hC []
    · repeat' first | exact CO.nil | apply CO.gone | apply CO.row rfl rfl | apply CO.box rfl rfl | decide
    · rfl
    · decide
    · rfl
  · intro v2 s hs
    have h := hs
    unfold laws_markIntS_l2 at h
    refine s_in ?_
    refine s_reg ?_
    iterate 4 refine v_op hT hC rfl rfl rfl rfl trivial ?_
    refine Vc.nil ?_
    rcases sel_some h with ⟨hb3, h⟩ | ⟨hb3, h⟩
    · refine s_true rfl hb3 ?_
      refine aw_skip ?_
      refine t_norm ?_
      refine s_in ?_
      refine s_block ?_
      refine s_reg ?_
      iterate 3 refine v_op hT hC rfl rfl rfl rfl trivial ?_
      obtain ⟨hq, h⟩ := req_some h
      refine v_op hT hC rfl rfl rfl rfl hq ?_
      obtain ⟨hq, h⟩ := req_some h
      refine v_op hT hC rfl rfl rfl rfl hq ?_
      refine Vc.nil ?_
      refine aw_region ?_
      iterate 3 refine v_op hT hC rfl rfl rfl rfl trivial ?_
      refine Vc.nil ?_
      refine b_norm ?_
      refine t_norm ?_
      refine aw_region ?_
      iterate 3 refine v_op hT hC rfl rfl rfl rfl trivial ?_
      refine Vc.nil ?_
      injection h with h
      subst h
      refine r_go ?_
      try dsimp only
      apply w_conv hC []
      · repeat' first | exact CO.nil | apply CO.gone | apply CO.row rfl rfl | apply CO.box rfl rfl | decide
      · rfl
      · decide
      · rfl
    · refine s_false rfl hb3 ?_
      refine aw_exit ?_
      refine t_exit ?_
      injection h with h
      subst h
      refine r_exit ?_
      refine o_out ?_
      try dsimp only
      apply w_conv hC []
      · repeat' first | exact CO.nil | apply CO.gone | apply CO.row rfl rfl | apply CO.box rfl rfl | decide
      · rfl
      · decide
      · rfl
  refine t_norm ?_
  refine s_reg ?_
  iterate 2 refine v_op hT hC rfl rfl rfl rfl trivial ?_
  refine Vc.nil ?_
  refine aw_ret ?_
  injection h with h
  subst h
  exact ends (Weak.refl _) rfl ⟨rfl, trivial⟩
def laws_markSeq_res (r : (Int × Seq)) : AV := .sv (.int .i64 r.1)
def laws_markSeq_obs (r : (Int × Seq)) : Objs := [(2, .ints .i64 r.2.Cols), (3, .ints .i64 r.2.Rows)]
theorem laws_markSeq_ac {p0 : Seq} {p1 : Int} {r : (Int × Seq)} (h : laws_markSeq p0 p1 = some r) : AC Try.prog 122 [.agg [.sv (.int .i64 p0.Level), .sv (.int .i64 p0.Bits), .own 2, .own 3], .sv (.int .i64 p1)] [(2, .ints .i64 p0.Cols), (3, .ints .i64 p0.Rows)] (laws_markSeq_res r) (laws_markSeq_obs r) := by
  refine ac_of_body hT Try.func122 rfl fun C hC => ?_
  unfold laws_markSeq at h
  refine s_reg ?_
  iterate 2 refine v_op hT hC rfl rfl rfl rfl trivial ?_
  refine Vc.nil ?_
  refine s_reg ?_
  iterate 3 refine v_op hT hC rfl rfl rfl rfl trivial ?_
  obtain ⟨q1, hq, h⟩ := bnd_some h
  refine v_call hC [(0, 2)] rfl rfl rfl rfl Try.call204 (laws_markIntS_ac hq) rfl (by decide) ⟨rfl, trivial⟩ rfl (.inl rfl) rfl ?_
  refine v_op hT hC rfl rfl rfl rfl trivial ?_
  refine Vc.nil ?_
  refine s_reg ?_
  iterate 3 refine v_op hT hC rfl rfl rfl rfl trivial ?_
  obtain ⟨q2, hq, h⟩ := bnd_some h
  refine v_call hC [(0, 3)] rfl rfl rfl rfl Try.call204 (laws_markIntS_ac hq) rfl (by decide) ⟨rfl, trivial⟩ rfl (.inl rfl) rfl ?_
  refine v_op hT hC rfl rfl rfl rfl trivial ?_
  refine Vc.nil ?_
  refine s_reg ?_
  iterate 2 refine v_op hT hC rfl rfl rfl rfl trivial ?_
  refine Vc.nil ?_
  refine aw_ret ?_
  injection h with h
  subst h
  exact ends (Weak.refl _) rfl ⟨rfl, rfl, trivial⟩
def laws_markSource_res (r : (Int × Source)) : AV := .sv (.int .i64 r.1)
def laws_markSource_obs (r : (Int × Source)) : Objs := [(2, .ints .i64 r.2.Seq.Cols), (3, .ints .i64 r.2.Seq.Rows)]
theorem laws_markSource_ac {p0 : Source} {p1 : Int} {r : (Int × Source)} (h : laws_markSource p0 p1 = some r) : AC Try.prog 36 [.agg [.sv (.int .i64 p0.Seq.Level), .sv (.int .i64 p0.Seq.Bits), .own 2, .own 3, .sv (.int .i64 p0.Par.Qp), .sv (.bool p0.Par.Large), .sv (.bool p0.Par.Exact), .sv (.bool p0.Par.Confined), .sv (.int .i64 p0.Rate.Qp), .sv (.int .i64 p0.Rate.Target), .sv (.int .i64 p0.Rate.Debt), .sv (.int .i64 p0.Frame), .sv (.int .i64 p0.Since), .sv (.int .i64 p0.Every), .sv (.int .i64 p0.Reach), .sv (.bool p0.Has), .sv (.int .i64 p0.Ref.Wide), .sv (.int .i64 p0.Ref.High), .sv (.str p0.Ref.Dots)], .sv (.int .i64 p1)] [(2, .ints .i64 p0.Seq.Cols), (3, .ints .i64 p0.Seq.Rows)] (laws_markSource_res r) (laws_markSource_obs r) := by
  refine ac_of_body hT Try.func36 rfl fun C hC => ?_
  unfold laws_markSource at h
  refine s_reg ?_
  iterate 2 refine v_op hT hC rfl rfl rfl rfl trivial ?_
  refine Vc.nil ?_
  refine s_reg ?_
  iterate 3 refine v_op hT hC rfl rfl rfl rfl trivial ?_
  obtain ⟨q1, hq, h⟩ := bnd_some h
  refine v_call hC [(2, 2), (3, 3)] rfl rfl rfl rfl Try.call122 (laws_markSeq_ac hq) rfl (by decide) ⟨rfl, rfl, trivial⟩ rfl (.inl rfl) rfl ?_
  refine v_op hT hC rfl rfl rfl rfl trivial ?_
  refine Vc.nil ?_
  refine s_reg ?_
  iterate 2 refine v_op hT hC rfl rfl rfl rfl trivial ?_
  refine Vc.nil ?_
  refine aw_ret ?_
  injection h with h
  subst h
  exact ends (Weak.refl _) rfl ⟨rfl, rfl, trivial⟩
def laws_eqStringS_res (r : Bool) : AV := .sv (.bool r)
def laws_eqStringS_obs (r : Bool) : Objs := []
theorem laws_eqStringS_ac {p0 : (List ByteArray)} {p1 : (List ByteArray)} {r : Bool} (h : laws_eqStringS p0 p1 = some r) : AC Try.prog 42 [.sv (cByteArray.sv p0), .sv (cByteArray.sv p1)] [] (laws_eqStringS_res r) (laws_eqStringS_obs r) := by
  refine ac_of_body hT Try.func42 rfl fun C hC => ?_
  unfold laws_eqStringS at h
  refine s_reg ?_
  refine v_op hT hC rfl rfl rfl rfl trivial ?_
  refine Vc.nil ?_
  refine s_in ?_
  refine s_reg ?_
  iterate 5 refine v_op hT hC rfl rfl rfl rfl trivial ?_
  refine Vc.nil ?_
  rcases sel_some h with ⟨hb1, h⟩ | ⟨hb1, h⟩
  · refine s_true rfl hb1 ?_
    refine s_reg ?_
    refine v_op hT hC rfl rfl rfl rfl trivial ?_
    refine Vc.nil ?_
    refine aw_ret ?_
    refine t_ret ?_
    injection h with h
    subst h
    exact ends (Weak.refl _) rfl trivial
  · refine s_false rfl hb1 ?_
    refine aw_skip ?_
    refine t_norm ?_
    refine s_in ?_
    refine s_reg ?_
    refine v_op hT hC rfl rfl rfl rfl trivial ?_
    refine Vc.nil ?_
    refine live [0, 1, 5] [] (s' := [_, _, _]) (o' := []) rfl rfl ?_
    obtain ⟨o5, hl, h⟩ := bnd_some h
    refine s_loopR (fun v2 => ([(5, .sv (.int .i64 v2))], [])) (fun v4 => ([(0, .any), (1, .any), (5, .any)], [])) (fun r => EndsA C T Try.f42.results.toList (laws_eqStringS_res r) (laws_eqStringS_obs r)) hl ?_ ?_ ?_ ?_
    · apply w_conv hC []
      · repeat' first | exact CO.nil | apply CO.gone | apply CO.row rfl rfl | apply CO.box rfl rfl | decide
      · rfl
      · decide
      · rfl
    · intro v2 s hs
      have h := hs
      unfold laws_eqStringS_l2 at h
      refine s_in ?_
      refine s_reg ?_
      iterate 4 refine v_op hT hC rfl rfl rfl rfl trivial ?_
      refine Vc.nil ?_
      rcases sel_some h with ⟨hb6, h⟩ | ⟨hb6, h⟩
      · refine s_true rfl hb6 ?_
        refine aw_skip ?_
        refine t_norm ?_
        refine s_in ?_
        refine s_block ?_
        refine s_draw hm ?_
        iterate 2 refine v_op hT hC rfl rfl rfl rfl trivial ?_
        obtain ⟨hq, h⟩ := req_some h
        refine v_op hT hC rfl rfl rfl rfl hq ?_
        iterate 3 refine v_op hT hC rfl rfl rfl rfl trivial ?_
        obtain ⟨hq, h⟩ := req_some h
        refine v_op hT hC rfl rfl rfl rfl hq ?_
        iterate 2 refine v_op hT hC rfl rfl rfl rfl trivial ?_
        refine Vc.nil ⟨by kernel_rfl, ?_⟩
        rcases sel_some h with ⟨hb7, h⟩ | ⟨hb7, h⟩
        · refine s_true rfl hb7 ?_
          refine s_reg ?_
          refine v_op hT hC rfl rfl rfl rfl trivial ?_
          refine Vc.nil ?_
          refine aw_ret ?_
          refine b_ret ?_
          refine t_ret ?_
          injection h with h
          subst h
          refine r_ret ?_
          refine o_ret ?_
          exact ends (Weak.refl _) rfl trivial
        · refine s_false rfl hb7 ?_
          refine aw_skip ?_
          refine b_norm ?_
          refine t_norm ?_
          refine aw_region ?_
          iterate 3 refine v_op hT hC rfl rfl rfl rfl trivial ?_
          refine Vc.nil ?_
          injection h with h
          subst h
          refine r_go ?_
          apply w_conv hC []
          · repeat' first | exact CO.nil | apply CO.gone | apply CO.row rfl rfl | apply CO.box rfl rfl | decide
          · rfl
          · decide
          · rfl
      · refine s_false rfl hb6 ?_
        refine aw_exit ?_
        refine t_exit ?_
        injection h with h
        subst h
        refine r_exit ?_
        refine o_both ?_
        apply w_conv hC []
        · repeat' first | exact CO.nil | apply CO.gone | apply CO.row rfl rfl | apply CO.box rfl rfl | decide
        · rfl
        · decide
        · rfl
    · intro v4 e
      subst e
      refine t_norm ?_
      refine s_reg ?_
      refine v_op hT hC rfl rfl rfl rfl trivial ?_
      refine Vc.nil ?_
      refine aw_ret ?_
      injection h with h
      subst h
      exact ends (Weak.refl _) rfl trivial
    · intro r' σ' e hE
      subst e
      injection h with h
      subst h
      refine t_ret ?_
      exact hE
def laws_markText_res (r : ByteArray) : AV := .sv (.str r)
def laws_markText_obs (r : ByteArray) : Objs := []
theorem laws_markText_ac {p0 : Int} {r : ByteArray} (h : laws_markText p0 = some r) : AC Try.prog 131 [.sv (.int .i64 p0)] [] (laws_markText_res r) (laws_markText_obs r) := by
  refine ac_of_body hT Try.func131 rfl fun C hC => ?_
  unfold laws_markText at h
  refine s_reg ?_
  refine v_op hT hC rfl rfl rfl rfl trivial ?_
  refine Vc.nil ?_
  refine s_in ?_
  refine s_reg ?_
  iterate 2 refine v_op hT hC rfl rfl rfl rfl trivial ?_
  refine Vc.nil ?_
  rcases sel_some h with ⟨hb1, h⟩ | ⟨hb1, h⟩
  · refine s_true rfl hb1 ?_
    refine s_reg ?_
    refine v_op hT hC rfl rfl rfl rfl trivial ?_
    refine Vc.nil ?_
    refine aw_ret ?_
    refine t_ret ?_
    injection h with h
    subst h
    exact ends (Weak.refl _) rfl trivial
  · refine s_false rfl hb1 ?_
    refine aw_skip ?_
    refine t_norm ?_
    refine s_reg ?_
    refine v_op hT hC rfl rfl rfl rfl trivial ?_
    refine Vc.nil ?_
    refine s_in ?_
    refine live [0, 3] [] (s' := [_, _]) (o' := []) rfl rfl ?_
    obtain ⟨v4, hl, h⟩ := bnd_some h
    refine s_loop (fun v2 => ([(0, .sv (.int .i64 v2.1)), (3, .sv (.str v2.2))], [])) (fun v4 => ([(3, .sv (.str v4)), (0, .any)], [])) hl ?_ ?_ ?_
    · try dsimp only
      apply w_conv hC []
      · repeat' first | exact CO.nil | apply CO.gone | apply CO.row rfl rfl | apply CO.box rfl rfl | decide
      · rfl
      · decide
      · rfl
    · intro v2 s hs
      have h := hs
      unfold laws_markText_l2 at h
      refine s_in ?_
      refine s_reg ?_
      iterate 2 refine v_op hT hC rfl rfl rfl rfl trivial ?_
      refine Vc.nil ?_
      rcases sel_some h with ⟨hb4, h⟩ | ⟨hb4, h⟩
      · refine s_true rfl hb4 ?_
        refine aw_skip ?_
        refine t_norm ?_
        refine s_block ?_
        refine s_reg ?_
        refine v_op hT hC rfl rfl rfl rfl trivial ?_
        obtain ⟨hq, h⟩ := req_some h
        refine v_op hT hC rfl rfl rfl rfl hq ?_
        iterate 5 refine v_op hT hC rfl rfl rfl rfl trivial ?_
        obtain ⟨hq, h⟩ := req_some h
        refine v_op hT hC rfl rfl rfl rfl hq ?_
        refine v_op hT hC rfl rfl rfl rfl trivial ?_
        refine Vc.nil ?_
        refine aw_region ?_
        refine v_op hT hC rfl rfl rfl rfl trivial ?_
        obtain ⟨hq, h⟩ := req_some h
        refine v_op hT hC rfl rfl rfl rfl hq ?_
        refine v_op hT hC rfl rfl rfl rfl trivial ?_
        refine Vc.nil ?_
        refine b_norm ?_
        injection h with h
        subst h
        refine r_go ?_
        try dsimp only
        apply w_conv hC []
        · repeat' first | exact CO.nil | apply CO.gone | apply CO.row rfl rfl | apply CO.box rfl rfl | decide
        · rfl
        · decide
        · rfl
      · refine s_false rfl hb4 ?_
        refine aw_exit ?_
        refine t_exit ?_
        injection h with h
        subst h
        refine r_exit ?_
        refine o_out ?_
        apply w_conv hC []
        · repeat' first | exact CO.nil | apply CO.gone | apply CO.row rfl rfl | apply CO.box rfl rfl | decide
        · rfl
        · decide
        · rfl
    refine t_norm ?_
    refine s_reg ?_
    refine v_op hT hC rfl rfl rfl rfl trivial ?_
    obtain ⟨hq, h⟩ := req_some h
    refine v_op hT hC rfl rfl rfl rfl hq ?_
    refine v_op hT hC rfl rfl rfl rfl trivial ?_
    refine Vc.nil ?_
    refine aw_ret ?_
    injection h with h
    subst h
    exact ends (Weak.refl _) rfl trivial
def laws_markStringS_res (r : (Int × (List ByteArray))) : AV := .sv (.int .i64 r.1)
def laws_markStringS_obs (r : (Int × (List ByteArray))) : Objs := [(0, .row cByteArray r.2)]
theorem laws_markStringS_ac {p0 : (List ByteArray)} {p1 : Int} {r : (Int × (List ByteArray))} (h : laws_markStringS p0 p1 = some r) : AC Try.prog 45 [.own 0, .sv (.int .i64 p1)] [(0, .row cByteArray p0)] (laws_markStringS_res r) (laws_markStringS_obs r) := by
  refine ac_of_body hT Try.func45 rfl fun C hC => ?_
  unfold laws_markStringS at h
  refine s_reg ?_
  refine v_op hT hC rfl rfl rfl rfl trivial ?_
  refine Vc.nil ?_
  refine s_in ?_
  refine s_reg ?_
  refine v_op hT hC rfl rfl rfl rfl trivial ?_
  refine Vc.nil ?_
  refine live [0, 1, 5] [0] (s' := [_, _, _]) (o' := [_]) rfl rfl ?_
  obtain ⟨v6, hl, h⟩ := bnd_some h
  refine s_loop (fun v3 => ([(1, .sv (.int .i64 v3.1)), (5, .sv (.int .i64 v3.2.1))], [(0, some (.row cByteArray v3.2.2))])) (fun v6 => ([(1, .sv (.int .i64 v6.1)), (0, .any), (5, .any)], [(0, some (.row cByteArray v6.2))])) hl ?_ ?_ ?_
  · try dsimp only
    apply w_conv hC []
    · repeat' first | exact CO.nil | apply CO.gone | apply CO.row rfl rfl | apply CO.box rfl rfl | decide
    · rfl
    · decide
    · rfl
  · intro v3 s hs
    have h := hs
    unfold laws_markStringS_l2 at h
    refine s_in ?_
    refine s_reg ?_
    iterate 4 refine v_op hT hC rfl rfl rfl rfl trivial ?_
    refine Vc.nil ?_
    rcases sel_some h with ⟨hb3, h⟩ | ⟨hb3, h⟩
    · refine s_true rfl hb3 ?_
      refine aw_skip ?_
      refine t_norm ?_
      refine s_in ?_
      refine s_block ?_
      refine s_reg ?_
      iterate 3 refine v_op hT hC rfl rfl rfl rfl trivial ?_
      obtain ⟨q7, hq, h⟩ := bnd_some h
      refine v_call hC [] rfl rfl rfl rfl Try.call131 (laws_markText_ac hq) rfl (by decide) trivial rfl (.inl rfl) rfl ?_
      obtain ⟨hq, h⟩ := req_some h
      refine v_op hT hC rfl rfl rfl rfl hq ?_
      obtain ⟨hq, h⟩ := req_some h
      refine v_op hT hC rfl rfl rfl rfl hq ?_
      refine Vc.nil ?_
      refine aw_region ?_
      iterate 3 refine v_op hT hC rfl rfl rfl rfl trivial ?_
      refine Vc.nil ?_
      refine b_norm ?_
      refine t_norm ?_
      refine aw_region ?_
      iterate 3 refine v_op hT hC rfl rfl rfl rfl trivial ?_
      refine Vc.nil ?_
      injection h with h
      subst h
      refine r_go ?_
      try dsimp only
      apply w_conv hC []
      · repeat' first | exact CO.nil | apply CO.gone | apply CO.row rfl rfl | apply CO.box rfl rfl | decide
      · rfl
      · decide
      · rfl
    · refine s_false rfl hb3 ?_
      refine aw_exit ?_
      refine t_exit ?_
      injection h with h
      subst h
      refine r_exit ?_
      refine o_out ?_
      try dsimp only
      apply w_conv hC []
      · repeat' first | exact CO.nil | apply CO.gone | apply CO.row rfl rfl | apply CO.box rfl rfl | decide
      · rfl
      · decide
      · rfl
  refine t_norm ?_
  refine s_reg ?_
  iterate 2 refine v_op hT hC rfl rfl rfl rfl trivial ?_
  refine Vc.nil ?_
  refine aw_ret ?_
  injection h with h
  subst h
  exact ends (Weak.refl _) rfl ⟨rfl, trivial⟩
def laws_heldStringS_res (r : Int) : AV := .sv (.int .i64 r)
def laws_heldStringS_obs (r : Int) : Objs := []
theorem laws_heldStringS_ac {p0 : (List ByteArray)} {p1 : Int} {r : Int} (h : laws_heldStringS p0 p1 = some r) : AC Try.prog 46 [.sv (cByteArray.sv p0), .sv (.int .i64 p1)] [] (laws_heldStringS_res r) (laws_heldStringS_obs r) := by
  refine ac_of_body hT Try.func46 rfl fun C hC => ?_
  unfold laws_heldStringS at h
  refine s_reg ?_
  refine v_op hT hC rfl rfl rfl rfl trivial ?_
  refine Vc.nil ?_
  refine s_in ?_
  refine s_reg ?_
  refine v_op hT hC rfl rfl rfl rfl trivial ?_
  refine Vc.nil ?_
  refine live [0, 1, 5] [] (s' := [_, _, _]) (o' := []) rfl rfl ?_
  obtain ⟨o8, hl, h⟩ := bnd_some h
  refine s_loopR (fun v3 => ([(1, .sv (.int .i64 v3.1)), (5, .sv (.int .i64 v3.2))], [])) (fun v6 => ([(1, .sv (.int .i64 v6)), (0, .any), (5, .any)], [])) (fun r => EndsA C T Try.f46.results.toList (laws_heldStringS_res r) (laws_heldStringS_obs r)) hl ?_ ?_ ?_ ?_
  · try dsimp only
    apply w_conv hC []
    · repeat' first | exact CO.nil | apply CO.gone | apply CO.row rfl rfl | apply CO.box rfl rfl | decide
    · rfl
    · decide
    · rfl
  · intro v3 s hs
    have h := hs
    unfold laws_heldStringS_l2 at h
    refine s_in ?_
    refine s_reg ?_
    iterate 4 refine v_op hT hC rfl rfl rfl rfl trivial ?_
    refine Vc.nil ?_
    rcases sel_some h with ⟨hb5, h⟩ | ⟨hb5, h⟩
    · refine s_true rfl hb5 ?_
      refine aw_skip ?_
      refine t_norm ?_
      refine s_in ?_
      refine s_block ?_
      refine s_in ?_
      refine s_draw hm ?_
      iterate 2 refine v_op hT hC rfl rfl rfl rfl trivial ?_
      obtain ⟨hq, h⟩ := req_some h
      refine v_op hT hC rfl rfl rfl rfl hq ?_
      iterate 2 refine v_op hT hC rfl rfl rfl rfl trivial ?_
      obtain ⟨q7, hq, h⟩ := bnd_some h
      refine v_call hC [] rfl rfl rfl rfl Try.call131 (laws_markText_ac hq) rfl (by decide) trivial rfl (.inl rfl) rfl ?_
      refine v_op hT hC rfl rfl rfl rfl trivial ?_
      refine Vc.nil ⟨by kernel_rfl, ?_⟩
      rcases sel_some h with ⟨hb6, h⟩ | ⟨hb6, h⟩
      · refine s_true rfl hb6 ?_
        refine s_reg ?_
        refine v_op hT hC rfl rfl rfl rfl trivial ?_
        refine Vc.nil ?_
        refine aw_ret ?_
        refine t_ret ?_
        refine b_ret ?_
        refine t_ret ?_
        injection h with h
        subst h
        refine r_ret ?_
        refine o_ret ?_
        exact ends (Weak.refl _) rfl trivial
      · refine s_false rfl hb6 ?_
        refine aw_skip ?_
        refine t_norm ?_
        refine aw_region ?_
        iterate 3 refine v_op hT hC rfl rfl rfl rfl trivial ?_
        refine Vc.nil ?_
        refine b_norm ?_
        refine t_norm ?_
        refine aw_region ?_
        iterate 3 refine v_op hT hC rfl rfl rfl rfl trivial ?_
        refine Vc.nil ?_
        injection h with h
        subst h
        refine r_go ?_
        try dsimp only
        apply w_conv hC []
        · repeat' first | exact CO.nil | apply CO.gone | apply CO.row rfl rfl | apply CO.box rfl rfl | decide
        · rfl
        · decide
        · rfl
    · refine s_false rfl hb5 ?_
      refine aw_exit ?_
      refine t_exit ?_
      injection h with h
      subst h
      refine r_exit ?_
      refine o_both ?_
      apply w_conv hC []
      · repeat' first | exact CO.nil | apply CO.gone | apply CO.row rfl rfl | apply CO.box rfl rfl | decide
      · rfl
      · decide
      · rfl
  · intro v6 e
    subst e
    refine t_norm ?_
    refine s_reg ?_
    iterate 2 refine v_op hT hC rfl rfl rfl rfl trivial ?_
    refine Vc.nil ?_
    refine aw_ret ?_
    injection h with h
    subst h
    exact ends (Weak.refl _) rfl trivial
  · intro r' σ' e hE
    subst e
    injection h with h
    subst h
    refine t_ret ?_
    exact hE
def laws_szIntS_res (r : Int) : AV := .sv (.int .i64 r)
def laws_szIntS_obs (r : Int) : Objs := []
theorem laws_szIntS_ac {p0 : (List Int)} {p1 : Int} {r : Int} (h : laws_szIntS p0 p1 = some r) : AC Try.prog 211 [.sv (.ints .i64 p0), .sv (.int .i64 p1)] [] (laws_szIntS_res r) (laws_szIntS_obs r) := by
  refine ac_of_body hT Try.func211 rfl fun C hC => ?_
  unfold laws_szIntS at h
  refine s_reg ?_
  refine v_op hT hC rfl rfl rfl rfl trivial ?_
  refine Vc.nil ?_
  refine s_reg ?_
  iterate 5 refine v_op hT hC rfl rfl rfl rfl trivial ?_
  refine Vc.nil ?_
  refine s_in ?_
  refine s_reg ?_
  iterate 2 refine v_op hT hC rfl rfl rfl rfl trivial ?_
  refine Vc.nil ?_
  rcases sel_some h with ⟨hb1, h⟩ | ⟨hb1, h⟩
  · refine s_true rfl hb1 ?_
    refine s_reg ?_
    refine v_op hT hC rfl rfl rfl rfl trivial ?_
    refine Vc.nil ?_
    refine aw_ret ?_
    refine t_ret ?_
    injection h with h
    subst h
    exact ends (Weak.refl _) rfl trivial
  · refine s_false rfl hb1 ?_
    refine aw_skip ?_
    refine t_norm ?_
    refine s_reg ?_
    iterate 2 refine v_op hT hC rfl rfl rfl rfl trivial ?_
    refine Vc.nil ?_
    refine aw_ret ?_
    injection h with h
    subst h
    exact ends (Weak.refl _) rfl trivial
def laws_toIntS_res (r : (List Int)) : AV := .own 16
def laws_toIntS_obs (r : (List Int)) : Objs := [(16, .ints .i64 r)]
theorem laws_toIntS_ac {p0 : (List Int)} {r : (List Int)} (h : laws_toIntS p0 = some r) : AC Try.prog 213 [.sv (.ints .i64 p0)] [] (laws_toIntS_res r) (laws_toIntS_obs r) := by
  refine ac_of_body hT Try.func213 rfl fun C hC => ?_
  unfold laws_toIntS at h
  refine s_reg ?_
  refine v_op hT hC rfl rfl rfl rfl trivial ?_
  refine Vc.nil ?_
  refine s_reg ?_
  iterate 2 refine v_op hT hC rfl rfl rfl rfl trivial ?_
  obtain ⟨hq, h⟩ := req_some h
  refine v_op hT hC rfl rfl rfl rfl ⟨hq.1, hq.2.1, hq.2.2, by decide⟩ ?_
  refine v_op hT hC rfl rfl rfl rfl trivial ?_
  refine Vc.nil ?_
  refine s_in ?_
  refine s_reg ?_
  refine v_op hT hC rfl rfl rfl rfl trivial ?_
  refine Vc.nil ?_
  refine live [0, 3, 4] [112] (s' := [_, _, _]) (o' := [_]) rfl rfl ?_
  obtain ⟨v4, hl, h⟩ := bnd_some h
  refine s_loop (fun v2 => ([(4, .sv (.int .i64 v2.1))], [(112, some (.ints .i64 v2.2))])) (fun v4 => ([(0, .any), (4, .any)], [(112, some (.ints .i64 v4))])) hl ?_ ?_ ?_
  · try dsimp only
    apply w_conv hC []
    · repeat' first | exact CO.nil | apply CO.gone | apply CO.row rfl rfl | apply CO.box rfl rfl | decide
    · rfl
    · decide
    · rfl
  · intro v2 s hs
    have h := hs
    unfold laws_toIntS_l2 at h
    refine s_in ?_
    refine s_reg ?_
    iterate 4 refine v_op hT hC rfl rfl rfl rfl trivial ?_
    refine Vc.nil ?_
    rcases sel_some h with ⟨hb3, h⟩ | ⟨hb3, h⟩
    · refine s_true rfl hb3 ?_
      refine aw_skip ?_
      refine t_norm ?_
      refine s_in ?_
      refine s_block ?_
      refine aw_region ?_
      iterate 4 refine v_op hT hC rfl rfl rfl rfl trivial ?_
      obtain ⟨hq, h⟩ := req_some h
      refine v_op hT hC rfl rfl rfl rfl hq ?_
      refine v_op hT hC rfl rfl rfl rfl trivial ?_
      obtain ⟨hq, h⟩ := req_some h
      refine v_op hT hC rfl rfl rfl rfl hq ?_
      obtain ⟨hq, h⟩ := req_some h
      refine v_op hT hC rfl rfl rfl rfl hq ?_
      refine Vc.nil ?_
      refine b_norm ?_
      refine t_norm ?_
      refine aw_region ?_
      iterate 3 refine v_op hT hC rfl rfl rfl rfl trivial ?_
      refine Vc.nil ?_
      injection h with h
      subst h
      refine r_go ?_
      try dsimp only
      apply w_conv hC []
      · repeat' first | exact CO.nil | apply CO.gone | apply CO.row rfl rfl | apply CO.box rfl rfl | decide
      · rfl
      · decide
      · rfl
    · refine s_false rfl hb3 ?_
      refine aw_exit ?_
      refine t_exit ?_
      injection h with h
      subst h
      refine r_exit ?_
      refine o_out ?_
      apply w_conv hC []
      · repeat' first | exact CO.nil | apply CO.gone | apply CO.row rfl rfl | apply CO.box rfl rfl | decide
      · rfl
      · decide
      · rfl
  refine t_norm ?_
  refine s_reg ?_
  iterate 2 refine v_op hT hC rfl rfl rfl rfl trivial ?_
  refine Vc.nil ?_
  refine aw_ret ?_
  injection h with h
  subst h
  refine ends (τ := ⟨[(2, .own 16)], [(16, some (.ints .i64 v4))]⟩) ?_ rfl ⟨rfl, trivial⟩
  apply w_conv hC [(16, 112)]
  · repeat' first | exact CO.nil | apply CO.gone | apply CO.row rfl rfl | apply CO.box rfl rfl | decide
  · rfl
  · decide
  · rfl
def spec_l01Long_res (r : ByteArray) : AV := .sv (.str r)
def spec_l01Long_obs (r : ByteArray) : Objs := []
theorem spec_l01Long_ac {p0 : Int} {p1 : Int} {r : ByteArray} (h : spec_l01Long p0 p1 = some r) : AC Try.prog 256 [.sv (.int .i64 p0), .sv (.int .u8 p1)] [] (spec_l01Long_res r) (spec_l01Long_obs r) := by
  refine ac_of_body hT Try.func256 rfl fun C hC => ?_
  unfold spec_l01Long at h
  refine s_reg ?_
  refine v_op hT hC rfl rfl rfl rfl trivial ?_
  refine Vc.nil ?_
  refine s_reg ?_
  refine v_op hT hC rfl rfl rfl rfl trivial ?_
  obtain ⟨hq, h⟩ := req_some h
  refine v_op hT hC rfl rfl rfl rfl ⟨hq.1, hq.2.1, hq.2.2, by decide⟩ ?_
  refine v_op hT hC rfl rfl rfl rfl trivial ?_
  refine Vc.nil ?_
  refine s_in ?_
  refine s_reg ?_
  refine v_op hT hC rfl rfl rfl rfl trivial ?_
  refine Vc.nil ?_
  refine live [0, 1, 5, 6] [128] (s' := [_, _, _, _]) (o' := [_]) rfl rfl ?_
  obtain ⟨v4, hl, h⟩ := bnd_some h
  refine s_loop (fun v2 => ([(6, .sv (.int .i64 v2.1))], [(128, some (.ints .u8 v2.2))])) (fun v4 => ([(0, .any), (1, .any), (6, .any)], [(128, some (.ints .u8 v4))])) hl ?_ ?_ ?_
  · try dsimp only
    apply w_conv hC []
    · repeat' first | exact CO.nil | apply CO.gone | apply CO.row rfl rfl | apply CO.box rfl rfl | decide
    · rfl
    · decide
    · rfl
  · intro v2 s hs
    have h := hs
    unfold spec_l01Long_l2 at h
    refine s_in ?_
    refine s_reg ?_
    iterate 3 refine v_op hT hC rfl rfl rfl rfl trivial ?_
    refine Vc.nil ?_
    rcases sel_some h with ⟨hb3, h⟩ | ⟨hb3, h⟩
    · refine s_true rfl hb3 ?_
      refine aw_skip ?_
      refine t_norm ?_
      refine s_in ?_
      refine s_block ?_
      refine aw_region ?_
      iterate 3 refine v_op hT hC rfl rfl rfl rfl trivial ?_
      obtain ⟨hq, h⟩ := req_some h
      refine v_op hT hC rfl rfl rfl rfl hq ?_
      obtain ⟨hq, h⟩ := req_some h
      refine v_op hT hC rfl rfl rfl rfl hq ?_
      refine Vc.nil ?_
      refine b_norm ?_
      refine t_norm ?_
      refine aw_region ?_
      iterate 3 refine v_op hT hC rfl rfl rfl rfl trivial ?_
      refine Vc.nil ?_
      injection h with h
      subst h
      refine r_go ?_
      try dsimp only
      apply w_conv hC []
      · repeat' first | exact CO.nil | apply CO.gone | apply CO.row rfl rfl | apply CO.box rfl rfl | decide
      · rfl
      · decide
      · rfl
    · refine s_false rfl hb3 ?_
      refine aw_exit ?_
      refine t_exit ?_
      injection h with h
      subst h
      refine r_exit ?_
      refine o_out ?_
      apply w_conv hC []
      · repeat' first | exact CO.nil | apply CO.gone | apply CO.row rfl rfl | apply CO.box rfl rfl | decide
      · rfl
      · decide
      · rfl
  refine t_norm ?_
  refine s_reg ?_
  iterate 3 refine v_op hT hC rfl rfl rfl rfl trivial ?_
  refine Vc.nil ?_
  refine aw_ret ?_
  injection h with h
  subst h
  exact ends (Weak.refl _) rfl trivial
def spec_l03Ue_res (r : ByteArray) : AV := .sv (.str r)
def spec_l03Ue_obs (r : ByteArray) : Objs := []
theorem spec_l03Ue_ac {p0 : Int} {r : ByteArray} (h : spec_l03Ue p0 = some r) : AC Try.prog 221 [.sv (.int .i64 p0)] [] (spec_l03Ue_res r) (spec_l03Ue_obs r) := by
  refine ac_of_body hT Try.func221 rfl fun C hC => ?_
  unfold spec_l03Ue at h
  refine s_reg ?_
  refine v_op hT hC rfl rfl rfl rfl trivial ?_
  refine Vc.nil ?_
  refine s_reg ?_
  iterate 3 refine v_op hT hC rfl rfl rfl rfl trivial ?_
  refine Vc.nil ?_
  refine s_reg ?_
  refine v_op hT hC rfl rfl rfl rfl trivial ?_
  refine Vc.nil ?_
  refine s_in ?_
  refine live [3, 4] [] (s' := [_, _]) (o' := []) rfl rfl ?_
  obtain ⟨v4, hl, h⟩ := bnd_some h
  refine s_loop (fun v2 => ([(3, .sv (.int .i64 v2.1)), (4, .sv (.str v2.2))], [])) (fun v4 => ([(4, .sv (.str v4)), (3, .any)], [])) hl ?_ ?_ ?_
  · try dsimp only
    apply w_conv hC []
    · repeat' first | exact CO.nil | apply CO.gone | apply CO.row rfl rfl | apply CO.box rfl rfl | decide
    · rfl
    · decide
    · rfl
  · intro v2 s hs
    have h := hs
    unfold spec_l03Ue_l2 at h
    refine s_in ?_
    refine s_reg ?_
    iterate 2 refine v_op hT hC rfl rfl rfl rfl trivial ?_
    refine Vc.nil ?_
    rcases sel_some h with ⟨hb3, h⟩ | ⟨hb3, h⟩
    · refine s_true rfl hb3 ?_
      refine aw_skip ?_
      refine t_norm ?_
      refine s_block ?_
      refine s_reg ?_
      refine v_op hT hC rfl rfl rfl rfl trivial ?_
      obtain ⟨hq, h⟩ := req_some h
      refine v_op hT hC rfl rfl rfl rfl hq ?_
      iterate 5 refine v_op hT hC rfl rfl rfl rfl trivial ?_
      obtain ⟨hq, h⟩ := req_some h
      refine v_op hT hC rfl rfl rfl rfl hq ?_
      refine v_op hT hC rfl rfl rfl rfl trivial ?_
      refine Vc.nil ?_
      refine aw_region ?_
      refine v_op hT hC rfl rfl rfl rfl trivial ?_
      obtain ⟨hq, h⟩ := req_some h
      refine v_op hT hC rfl rfl rfl rfl hq ?_
      refine v_op hT hC rfl rfl rfl rfl trivial ?_
      refine Vc.nil ?_
      refine b_norm ?_
      injection h with h
      subst h
      refine r_go ?_
      try dsimp only
      apply w_conv hC []
      · repeat' first | exact CO.nil | apply CO.gone | apply CO.row rfl rfl | apply CO.box rfl rfl | decide
      · rfl
      · decide
      · rfl
    · refine s_false rfl hb3 ?_
      refine aw_exit ?_
      refine t_exit ?_
      injection h with h
      subst h
      refine r_exit ?_
      refine o_out ?_
      apply w_conv hC []
      · repeat' first | exact CO.nil | apply CO.gone | apply CO.row rfl rfl | apply CO.box rfl rfl | decide
      · rfl
      · decide
      · rfl
  refine t_norm ?_
  refine s_reg ?_
  iterate 3 refine v_op hT hC rfl rfl rfl rfl trivial ?_
  obtain ⟨q6, hq, h⟩ := bnd_some h
  refine v_call hC [] rfl rfl rfl rfl Try.call256 (spec_l01Long_ac hq) rfl (by decide) trivial rfl (.inl rfl) rfl ?_
  refine v_op hT hC rfl rfl rfl rfl trivial ?_
  obtain ⟨hq, h⟩ := req_some h
  refine v_op hT hC rfl rfl rfl rfl hq ?_
  refine v_op hT hC rfl rfl rfl rfl trivial ?_
  refine Vc.nil ?_
  refine aw_ret ?_
  injection h with h
  subst h
  exact ends (Weak.refl _) rfl trivial
def laws_szSeq_res (r : Int) : AV := .sv (.int .i64 r)
def laws_szSeq_obs (r : Int) : Objs := []
theorem laws_szSeq_ac {p0 : Seq} {p1 : Int} {r : Int} (h : laws_szSeq p0 p1 = some r) : AC Try.prog 151 [.agg [.sv (.int .i64 p0.Level), .sv (.int .i64 p0.Bits), .sv (.ints .i64 p0.Cols), .sv (.ints .i64 p0.Rows)], .sv (.int .i64 p1)] [] (laws_szSeq_res r) (laws_szSeq_obs r) := by
  refine ac_of_body hT Try.func151 rfl fun C hC => ?_
  unfold laws_szSeq at h
  refine s_reg ?_
  iterate 2 refine v_op hT hC rfl rfl rfl rfl trivial ?_
  refine Vc.nil ?_
  refine s_reg ?_
  iterate 3 refine v_op hT hC rfl rfl rfl rfl trivial ?_
  obtain ⟨q1, hq, h⟩ := bnd_some h
  refine v_call hC [] rfl rfl rfl rfl Try.call211 (laws_szIntS_ac hq) rfl (by decide) trivial rfl (.inl rfl) rfl ?_
  refine v_op hT hC rfl rfl rfl rfl trivial ?_
  refine Vc.nil ?_
  refine s_in ?_
  refine s_reg ?_
  iterate 2 refine v_op hT hC rfl rfl rfl rfl trivial ?_
  refine Vc.nil ?_
  rcases sel_some h with ⟨hb1, h⟩ | ⟨hb1, h⟩
  · refine s_true rfl hb1 ?_
    refine s_reg ?_
    refine v_op hT hC rfl rfl rfl rfl trivial ?_
    refine Vc.nil ?_
    refine aw_ret ?_
    refine t_ret ?_
    injection h with h
    subst h
    exact ends (Weak.refl _) rfl trivial
  · refine s_false rfl hb1 ?_
    refine aw_skip ?_
    refine t_norm ?_
    refine s_reg ?_
    iterate 3 refine v_op hT hC rfl rfl rfl rfl trivial ?_
    obtain ⟨q2, hq, h⟩ := bnd_some h
    refine v_call hC [] rfl rfl rfl rfl Try.call211 (laws_szIntS_ac hq) rfl (by decide) trivial rfl (.inl rfl) rfl ?_
    refine v_op hT hC rfl rfl rfl rfl trivial ?_
    refine Vc.nil ?_
    refine s_in ?_
    refine s_reg ?_
    iterate 2 refine v_op hT hC rfl rfl rfl rfl trivial ?_
    refine Vc.nil ?_
    rcases sel_some h with ⟨hb2, h⟩ | ⟨hb2, h⟩
    · refine s_true rfl hb2 ?_
      refine s_reg ?_
      refine v_op hT hC rfl rfl rfl rfl trivial ?_
      refine Vc.nil ?_
      refine aw_ret ?_
      refine t_ret ?_
      injection h with h
      subst h
      exact ends (Weak.refl _) rfl trivial
    · refine s_false rfl hb2 ?_
      refine aw_skip ?_
      refine t_norm ?_
      refine s_reg ?_
      iterate 2 refine v_op hT hC rfl rfl rfl rfl trivial ?_
      refine Vc.nil ?_
      refine aw_ret ?_
      injection h with h
      subst h
      exact ends (Weak.refl _) rfl trivial
def laws_szPic_res (r : Int) : AV := .sv (.int .i64 r)
def laws_szPic_obs (r : Int) : Objs := []
theorem laws_szPic_ac {p0 : Pic} {p1 : Int} {r : Int} (h : laws_szPic p0 p1 = some r) : AC Try.prog 92 [.agg [.sv (.int .i64 p0.Wide), .sv (.int .i64 p0.High), .sv (.str p0.Dots)], .sv (.int .i64 p1)] [] (laws_szPic_res r) (laws_szPic_obs r) := by
  refine ac_of_body hT Try.func92 rfl fun C hC => ?_
  unfold laws_szPic at h
  refine s_reg ?_
  iterate 2 refine v_op hT hC rfl rfl rfl rfl trivial ?_
  refine Vc.nil ?_
  refine s_reg ?_
  iterate 6 refine v_op hT hC rfl rfl rfl rfl trivial ?_
  refine Vc.nil ?_
  refine s_in ?_
  refine s_reg ?_
  iterate 2 refine v_op hT hC rfl rfl rfl rfl trivial ?_
  refine Vc.nil ?_
  rcases sel_some h with ⟨hb1, h⟩ | ⟨hb1, h⟩
  · refine s_true rfl hb1 ?_
    refine s_reg ?_
    refine v_op hT hC rfl rfl rfl rfl trivial ?_
    refine Vc.nil ?_
    refine aw_ret ?_
    refine t_ret ?_
    injection h with h
    subst h
    exact ends (Weak.refl _) rfl trivial
  · refine s_false rfl hb1 ?_
    refine aw_skip ?_
    refine t_norm ?_
    refine s_reg ?_
    iterate 2 refine v_op hT hC rfl rfl rfl rfl trivial ?_
    refine Vc.nil ?_
    refine aw_ret ?_
    injection h with h
    subst h
    exact ends (Weak.refl _) rfl trivial
def laws_szSource_res (r : Int) : AV := .sv (.int .i64 r)
def laws_szSource_obs (r : Int) : Objs := []
theorem laws_szSource_ac {p0 : Source} {p1 : Int} {r : Int} (h : laws_szSource p0 p1 = some r) : AC Try.prog 69 [.agg [.sv (.int .i64 p0.Seq.Level), .sv (.int .i64 p0.Seq.Bits), .sv (.ints .i64 p0.Seq.Cols), .sv (.ints .i64 p0.Seq.Rows), .sv (.int .i64 p0.Par.Qp), .sv (.bool p0.Par.Large), .sv (.bool p0.Par.Exact), .sv (.bool p0.Par.Confined), .sv (.int .i64 p0.Rate.Qp), .sv (.int .i64 p0.Rate.Target), .sv (.int .i64 p0.Rate.Debt), .sv (.int .i64 p0.Frame), .sv (.int .i64 p0.Since), .sv (.int .i64 p0.Every), .sv (.int .i64 p0.Reach), .sv (.bool p0.Has), .sv (.int .i64 p0.Ref.Wide), .sv (.int .i64 p0.Ref.High), .sv (.str p0.Ref.Dots)], .sv (.int .i64 p1)] [] (laws_szSource_res r) (laws_szSource_obs r) := by
  refine ac_of_body hT Try.func69 rfl fun C hC => ?_
  unfold laws_szSource at h
  refine s_reg ?_
  iterate 2 refine v_op hT hC rfl rfl rfl rfl trivial ?_
  refine Vc.nil ?_
  refine s_reg ?_
  iterate 3 refine v_op hT hC rfl rfl rfl rfl trivial ?_
  obtain ⟨q1, hq, h⟩ := bnd_some h
  refine v_call hC [] rfl rfl rfl rfl Try.call151 (laws_szSeq_ac hq) rfl (by decide) trivial rfl (.inl rfl) rfl ?_
  refine v_op hT hC rfl rfl rfl rfl trivial ?_
  refine Vc.nil ?_
  refine s_in ?_
  refine s_reg ?_
  iterate 2 refine v_op hT hC rfl rfl rfl rfl trivial ?_
  refine Vc.nil ?_
  rcases sel_some h with ⟨hb1, h⟩ | ⟨hb1, h⟩
  · refine s_true rfl hb1 ?_
    refine s_reg ?_
    refine v_op hT hC rfl rfl rfl rfl trivial ?_
    refine Vc.nil ?_
    refine aw_ret ?_
    refine t_ret ?_
    injection h with h
    subst h
    exact ends (Weak.refl _) rfl trivial
  · refine s_false rfl hb1 ?_
    refine aw_skip ?_
    refine t_norm ?_
    refine s_reg ?_
    iterate 3 refine v_op hT hC rfl rfl rfl rfl trivial ?_
    obtain ⟨q2, hq, h⟩ := bnd_some h
    refine v_call hC [] rfl rfl rfl rfl Try.call92 (laws_szPic_ac hq) rfl (by decide) trivial rfl (.inl rfl) rfl ?_
    refine v_op hT hC rfl rfl rfl rfl trivial ?_
    refine Vc.nil ?_
    refine s_in ?_
    refine s_reg ?_
    iterate 2 refine v_op hT hC rfl rfl rfl rfl trivial ?_
    refine Vc.nil ?_
    rcases sel_some h with ⟨hb2, h⟩ | ⟨hb2, h⟩
    · refine s_true rfl hb2 ?_
      refine s_reg ?_
      refine v_op hT hC rfl rfl rfl rfl trivial ?_
      refine Vc.nil ?_
      refine aw_ret ?_
      refine t_ret ?_
      injection h with h
      subst h
      exact ends (Weak.refl _) rfl trivial
    · refine s_false rfl hb2 ?_
      refine aw_skip ?_
      refine t_norm ?_
      refine s_reg ?_
      iterate 2 refine v_op hT hC rfl rfl rfl rfl trivial ?_
      refine Vc.nil ?_
      refine aw_ret ?_
      injection h with h
      subst h
      exact ends (Weak.refl _) rfl trivial
def laws_toSeq_res (r : Seq) : AV := .agg [.sv (.int .i64 r.Level), .sv (.int .i64 r.Bits), .own 16, .own 17]
def laws_toSeq_obs (r : Seq) : Objs := [(16, .ints .i64 r.Cols), (17, .ints .i64 r.Rows)]
theorem laws_toSeq_ac {p0 : Seq} {r : Seq} (h : laws_toSeq p0 = some r) : AC Try.prog 155 [.agg [.sv (.int .i64 p0.Level), .sv (.int .i64 p0.Bits), .sv (.ints .i64 p0.Cols), .sv (.ints .i64 p0.Rows)]] [] (laws_toSeq_res r) (laws_toSeq_obs r) := by
  refine ac_of_body hT Try.func155 rfl fun C hC => ?_
  unfold laws_toSeq at h
  refine s_reg ?_
  iterate 2 refine v_op hT hC rfl rfl rfl rfl trivial ?_
  refine Vc.nil ?_
  refine s_reg ?_
  refine v_op hT hC rfl rfl rfl rfl trivial ?_
  refine Vc.nil ?_
  refine s_reg ?_
  iterate 4 refine v_op hT hC rfl rfl rfl rfl trivial ?_
  refine Vc.nil ?_
  refine s_reg ?_
  iterate 4 refine v_op hT hC rfl rfl rfl rfl trivial ?_
  refine Vc.nil ?_
  refine s_reg ?_
  iterate 2 refine v_op hT hC rfl rfl rfl rfl trivial ?_
  obtain ⟨q1, hq, h⟩ := bnd_some h
  refine v_call hC [(16, 192)] rfl rfl rfl rfl Try.call213 (laws_toIntS_ac hq) rfl (by decide) trivial rfl (.inl rfl) rfl ?_
  iterate 2 refine v_op hT hC rfl rfl rfl rfl trivial ?_
  refine Vc.nil ?_
  refine s_reg ?_
  iterate 2 refine v_op hT hC rfl rfl rfl rfl trivial ?_
  obtain ⟨q2, hq, h⟩ := bnd_some h
  refine v_call hC [(16, 256)] rfl rfl rfl rfl Try.call213 (laws_toIntS_ac hq) rfl (by decide) trivial rfl (.inl rfl) rfl ?_
  iterate 2 refine v_op hT hC rfl rfl rfl rfl trivial ?_
  refine Vc.nil ?_
  refine s_reg ?_
  iterate 2 refine v_op hT hC rfl rfl rfl rfl trivial ?_
  refine Vc.nil ?_
  refine aw_ret ?_
  injection h with h
  subst h
  refine ends (τ := ⟨[(2, .ptr 2000000 0)], [(16, some (.ints .i64 q1)), (17, some (.ints .i64 q2)), (2000000, some (.box [.sv (.int .i64 p0.Level), .sv (.int .i64 p0.Bits), .own 16, .own 17]))]⟩) ?_ rfl ⟨rfl, rfl, trivial⟩
  apply w_conv hC [(16, 192), (17, 256), (2000000, 32)]
  · repeat' first | exact CO.nil | apply CO.gone | apply CO.row rfl rfl | apply CO.box rfl rfl | decide
  · rfl
  · decide
  · rfl
def laws_toPic_res (r : Pic) : AV := .agg [.sv (.int .i64 r.Wide), .sv (.int .i64 r.High), .sv (.str r.Dots)]
def laws_toPic_obs (r : Pic) : Objs := []
theorem laws_toPic_ac {p0 : Pic} {r : Pic} (h : laws_toPic p0 = some r) : AC Try.prog 94 [.agg [.sv (.int .i64 p0.Wide), .sv (.int .i64 p0.High), .sv (.str p0.Dots)]] [] (laws_toPic_res r) (laws_toPic_obs r) := by
  refine ac_of_body hT Try.func94 rfl fun C hC => ?_
  unfold laws_toPic at h
  refine s_reg ?_
  iterate 2 refine v_op hT hC rfl rfl rfl rfl trivial ?_
  refine Vc.nil ?_
  refine s_reg ?_
  refine v_op hT hC rfl rfl rfl rfl trivial ?_
  refine Vc.nil ?_
  refine s_reg ?_
  iterate 4 refine v_op hT hC rfl rfl rfl rfl trivial ?_
  refine Vc.nil ?_
  refine s_reg ?_
  iterate 4 refine v_op hT hC rfl rfl rfl rfl trivial ?_
  refine Vc.nil ?_
  refine s_reg ?_
  iterate 4 refine v_op hT hC rfl rfl rfl rfl trivial ?_
  refine Vc.nil ?_
  refine s_reg ?_
  iterate 2 refine v_op hT hC rfl rfl rfl rfl trivial ?_
  refine Vc.nil ?_
  refine aw_ret ?_
  injection h with h
  subst h
  exact ends (Weak.refl _) rfl trivial
def laws_toSource_res (r : Source) : AV := .agg [.sv (.int .i64 r.Seq.Level), .sv (.int .i64 r.Seq.Bits), .own 16, .own 17, .sv (.int .i64 r.Par.Qp), .sv (.bool r.Par.Large), .sv (.bool r.Par.Exact), .sv (.bool r.Par.Confined), .sv (.int .i64 r.Rate.Qp), .sv (.int .i64 r.Rate.Target), .sv (.int .i64 r.Rate.Debt), .sv (.int .i64 r.Frame), .sv (.int .i64 r.Since), .sv (.int .i64 r.Every), .sv (.int .i64 r.Reach), .sv (.bool r.Has), .sv (.int .i64 r.Ref.Wide), .sv (.int .i64 r.Ref.High), .sv (.str r.Ref.Dots)]
def laws_toSource_obs (r : Source) : Objs := [(16, .ints .i64 r.Seq.Cols), (17, .ints .i64 r.Seq.Rows)]
theorem laws_toSource_ac {p0 : Source} {r : Source} (h : laws_toSource p0 = some r) : AC Try.prog 71 [.agg [.sv (.int .i64 p0.Seq.Level), .sv (.int .i64 p0.Seq.Bits), .sv (.ints .i64 p0.Seq.Cols), .sv (.ints .i64 p0.Seq.Rows), .sv (.int .i64 p0.Par.Qp), .sv (.bool p0.Par.Large), .sv (.bool p0.Par.Exact), .sv (.bool p0.Par.Confined), .sv (.int .i64 p0.Rate.Qp), .sv (.int .i64 p0.Rate.Target), .sv (.int .i64 p0.Rate.Debt), .sv (.int .i64 p0.Frame), .sv (.int .i64 p0.Since), .sv (.int .i64 p0.Every), .sv (.int .i64 p0.Reach), .sv (.bool p0.Has), .sv (.int .i64 p0.Ref.Wide), .sv (.int .i64 p0.Ref.High), .sv (.str p0.Ref.Dots)]] [] (laws_toSource_res r) (laws_toSource_obs r) := by
  refine ac_of_body hT Try.func71 rfl fun C hC => ?_
  unfold laws_toSource at h
  refine s_reg ?_
  iterate 2 refine v_op hT hC rfl rfl rfl rfl trivial ?_
  refine Vc.nil ?_
  refine s_reg ?_
  refine v_op hT hC rfl rfl rfl rfl trivial ?_
  refine Vc.nil ?_
  refine s_reg ?_
  iterate 2 refine v_op hT hC rfl rfl rfl rfl trivial ?_
  obtain ⟨q1, hq, h⟩ := bnd_some h
  refine v_call hC [(16, 96), (17, 97)] rfl rfl rfl rfl Try.call155 (laws_toSeq_ac hq) rfl (by decide) trivial rfl (.inl rfl) rfl ?_
  iterate 2 refine v_op hT hC rfl rfl rfl rfl trivial ?_
  refine Vc.nil ?_
  refine s_reg ?_
  iterate 2 refine v_op hT hC rfl rfl rfl rfl trivial ?_
  obtain ⟨q2, hq, h⟩ := bnd_some h
  refine v_call hC [] rfl rfl rfl rfl Try.call32 (laws_toPar_ac hq) rfl (by decide) trivial rfl (.inl rfl) rfl ?_
  iterate 2 refine v_op hT hC rfl rfl rfl rfl trivial ?_
  refine Vc.nil ?_
  refine s_reg ?_
  iterate 2 refine v_op hT hC rfl rfl rfl rfl trivial ?_
  obtain ⟨q3, hq, h⟩ := bnd_some h
  refine v_call hC [] rfl rfl rfl rfl Try.call33 (laws_toRate_ac hq) rfl (by decide) trivial rfl (.inl rfl) rfl ?_
  iterate 2 refine v_op hT hC rfl rfl rfl rfl trivial ?_
  refine Vc.nil ?_
  refine s_reg ?_
  iterate 4 refine v_op hT hC rfl rfl rfl rfl trivial ?_
  refine Vc.nil ?_
  refine s_reg ?_
  iterate 4 refine v_op hT hC rfl rfl rfl rfl trivial ?_
  refine Vc.nil ?_
  refine s_reg ?_
  iterate 4 refine v_op hT hC rfl rfl rfl rfl trivial ?_
  refine Vc.nil ?_
  refine s_reg ?_
  iterate 4 refine v_op hT hC rfl rfl rfl rfl trivial ?_
  refine Vc.nil ?_
  refine s_reg ?_
  iterate 4 refine v_op hT hC rfl rfl rfl rfl trivial ?_
  refine Vc.nil ?_
  refine s_reg ?_
  iterate 2 refine v_op hT hC rfl rfl rfl rfl trivial ?_
  obtain ⟨q4, hq, h⟩ := bnd_some h
  refine v_call hC [] rfl rfl rfl rfl Try.call94 (laws_toPic_ac hq) rfl (by decide) trivial rfl (.inl rfl) rfl ?_
  iterate 2 refine v_op hT hC rfl rfl rfl rfl trivial ?_
  refine Vc.nil ?_
  refine s_reg ?_
  iterate 2 refine v_op hT hC rfl rfl rfl rfl trivial ?_
  refine Vc.nil ?_
  refine aw_ret ?_
  injection h with h
  subst h
  refine ends (τ := ⟨[(2, .ptr 2000000 0)], [(16, some (.ints .i64 q1.Cols)), (17, some (.ints .i64 q1.Rows)), (2000000, some (.box [.sv (.int .i64 q1.Level), .sv (.int .i64 q1.Bits), .own 16, .own 17, .sv (.int .i64 q2.Qp), .sv (.bool q2.Large), .sv (.bool q2.Exact), .sv (.bool q2.Confined), .sv (.int .i64 q3.Qp), .sv (.int .i64 q3.Target), .sv (.int .i64 q3.Debt), .sv (.int .i64 p0.Frame), .sv (.int .i64 p0.Since), .sv (.int .i64 p0.Every), .sv (.int .i64 p0.Reach), .sv (.bool p0.Has), .sv (.int .i64 q4.Wide), .sv (.int .i64 q4.High), .sv (.str q4.Dots)]))]⟩) ?_ rfl ⟨rfl, rfl, trivial⟩
  apply w_conv hC [(16, 96), (17, 97), (2000000, 32)]
  · repeat' first | exact CO.nil | apply CO.gone | apply CO.row rfl rfl | apply CO.box rfl rfl | decide
  · rfl
  · decide
  · rfl
def spec_l02Fix_res (r : ByteArray) : AV := .sv (.str r)
def spec_l02Fix_obs (r : ByteArray) : Objs := []
theorem spec_l02Fix_ac {p0 : Int} {p1 : Int} {r : ByteArray} (h : spec_l02Fix p0 p1 = some r) : AC Try.prog 222 [.sv (.int .i64 p0), .sv (.int .i64 p1)] [] (spec_l02Fix_res r) (spec_l02Fix_obs r) := by
  refine ac_of_body hT Try.func222 rfl fun C hC => ?_
  unfold spec_l02Fix at h
  refine s_reg ?_
  refine v_op hT hC rfl rfl rfl rfl trivial ?_
  refine Vc.nil ?_
  refine s_reg ?_
  refine v_op hT hC rfl rfl rfl rfl trivial ?_
  obtain ⟨hq, h⟩ := req_some h
  refine v_op hT hC rfl rfl rfl rfl ⟨hq.1, hq.2.1, hq.2.2, by decide⟩ ?_
  refine v_op hT hC rfl rfl rfl rfl trivial ?_
  refine Vc.nil ?_
  refine s_in ?_
  refine s_reg ?_
  iterate 3 refine v_op hT hC rfl rfl rfl rfl trivial ?_
  refine Vc.nil ?_
  refine live [0, 5, 6] [128] (s' := [_, _, _]) (o' := [_]) rfl rfl ?_
  obtain ⟨v4, hl, h⟩ := bnd_some h
  refine s_loop (fun v2 => ([(0, .sv (.int .i64 v2.1)), (6, .sv (.int .i64 v2.2.1))], [(128, some (.ints .u8 v2.2.2))])) (fun v4 => ([(0, .any), (6, .any)], [(128, some (.ints .u8 v4))])) hl ?_ ?_ ?_
  · try dsimp only
    apply w_conv hC []
    · repeat' first | exact CO.nil | apply CO.gone | apply CO.row rfl rfl | apply CO.box rfl rfl | decide
    · rfl
    · decide
    · rfl
  · intro v2 s hs
    have h := hs
    unfold spec_l02Fix_l2 at h
    refine s_in ?_
    refine s_reg ?_
    iterate 2 refine v_op hT hC rfl rfl rfl rfl trivial ?_
    refine Vc.nil ?_
    rcases sel_some h with ⟨hb3, h⟩ | ⟨hb3, h⟩
    · refine s_true rfl hb3 ?_
      refine aw_skip ?_
      refine t_norm ?_
      refine s_in ?_
      refine s_block ?_
      refine s_reg ?_
      iterate 3 refine v_op hT hC rfl rfl rfl rfl trivial ?_
      obtain ⟨hq, h⟩ := req_some h
      refine v_op hT hC rfl rfl rfl rfl hq ?_
      iterate 2 refine v_op hT hC rfl rfl rfl rfl trivial ?_
      obtain ⟨hq, h⟩ := req_some h
      refine v_op hT hC rfl rfl rfl rfl hq ?_
      obtain ⟨hq, h⟩ := req_some h
      refine v_op hT hC rfl rfl rfl rfl hq ?_
      refine Vc.nil ?_
      refine aw_region ?_
      refine v_op hT hC rfl rfl rfl rfl trivial ?_
      obtain ⟨hq, h⟩ := req_some h
      refine v_op hT hC rfl rfl rfl rfl hq ?_
      refine v_op hT hC rfl rfl rfl rfl trivial ?_
      refine Vc.nil ?_
      refine b_norm ?_
      refine t_norm ?_
      refine aw_region ?_
      iterate 3 refine v_op hT hC rfl rfl rfl rfl trivial ?_
      refine Vc.nil ?_
      injection h with h
      subst h
      refine r_go ?_
      try dsimp only
      apply w_conv hC []
      · repeat' first | exact CO.nil | apply CO.gone | apply CO.row rfl rfl | apply CO.box rfl rfl | decide
      · rfl
      · decide
      · rfl
    · refine s_false rfl hb3 ?_
      refine aw_exit ?_
      refine t_exit ?_
      injection h with h
      subst h
      refine r_exit ?_
      refine o_out ?_
      apply w_conv hC []
      · repeat' first | exact CO.nil | apply CO.gone | apply CO.row rfl rfl | apply CO.box rfl rfl | decide
      · rfl
      · decide
      · rfl
  refine t_norm ?_
  refine s_reg ?_
  iterate 3 refine v_op hT hC rfl rfl rfl rfl trivial ?_
  refine Vc.nil ?_
  refine aw_ret ?_
  injection h with h
  subst h
  exact ends (Weak.refl _) rfl trivial
def spec_l05List_res (r : ByteArray) : AV := .sv (.str r)
def spec_l05List_obs (r : ByteArray) : Objs := []
theorem spec_l05List_ac {p0 : (List Int)} {r : ByteArray} (h : spec_l05List p0 = some r) : AC Try.prog 223 [.sv (.ints .i64 p0)] [] (spec_l05List_res r) (spec_l05List_obs r) := by
  refine ac_of_body hT Try.func223 rfl fun C hC => ?_
  unfold spec_l05List at h
  refine s_reg ?_
  refine v_op hT hC rfl rfl rfl rfl trivial ?_
  refine Vc.nil ?_
  refine s_reg ?_
  iterate 2 refine v_op hT hC rfl rfl rfl rfl trivial ?_
  obtain ⟨q1, hq, h⟩ := bnd_some h
  refine v_call hC [] rfl rfl rfl rfl Try.call221 (spec_l03Ue_ac hq) rfl (by decide) trivial rfl (.inl rfl) rfl ?_
  refine v_op hT hC rfl rfl rfl rfl trivial ?_
  refine Vc.nil ?_
  refine s_in ?_
  refine s_reg ?_
  refine v_op hT hC rfl rfl rfl rfl trivial ?_
  refine Vc.nil ?_
  refine live [0, 3, 4] [] (s' := [_, _, _]) (o' := []) rfl rfl ?_
  obtain ⟨v7, hl, h⟩ := bnd_some h
  refine s_loop (fun v4 => ([(3, .sv (.str v4.1)), (4, .sv (.int .i64 v4.2))], [])) (fun v7 => ([(3, .sv (.str v7)), (0, .any), (4, .any)], [])) hl ?_ ?_ ?_
  · try dsimp only
    apply w_conv hC []
    · repeat' first | exact CO.nil | apply CO.gone | apply CO.row rfl rfl | apply CO.box rfl rfl | decide
    · rfl
    · decide
    · rfl
  · intro v4 s hs
    have h := hs
    unfold spec_l05List_l2 at h
    refine s_in ?_
    refine s_reg ?_
    iterate 4 refine v_op hT hC rfl rfl rfl rfl trivial ?_
    refine Vc.nil ?_
    rcases sel_some h with ⟨hb3, h⟩ | ⟨hb3, h⟩
    · refine s_true rfl hb3 ?_
      refine aw_skip ?_
      refine t_norm ?_
      refine s_in ?_
      refine s_block ?_
      refine aw_region ?_
      iterate 3 refine v_op hT hC rfl rfl rfl rfl trivial ?_
      obtain ⟨hq, h⟩ := req_some h
      refine v_op hT hC rfl rfl rfl rfl hq ?_
      refine v_op hT hC rfl rfl rfl rfl trivial ?_
      obtain ⟨q8, hq, h⟩ := bnd_some h
      refine v_call hC [] rfl rfl rfl rfl Try.call221 (spec_l03Ue_ac hq) rfl (by decide) trivial rfl (.inl rfl) rfl ?_
      obtain ⟨hq, h⟩ := req_some h
      refine v_op hT hC rfl rfl rfl rfl hq ?_
      refine v_op hT hC rfl rfl rfl rfl trivial ?_
      refine Vc.nil ?_
      refine b_norm ?_
      refine t_norm ?_
      refine aw_region ?_
      iterate 3 refine v_op hT hC rfl rfl rfl rfl trivial ?_
      refine Vc.nil ?_
      injection h with h
      subst h
      refine r_go ?_
      try dsimp only
      apply w_conv hC []
      · repeat' first | exact CO.nil | apply CO.gone | apply CO.row rfl rfl | apply CO.box rfl rfl | decide
      · rfl
      · decide
      · rfl
    · refine s_false rfl hb3 ?_
      refine aw_exit ?_
      refine t_exit ?_
      injection h with h
      subst h
      refine r_exit ?_
      refine o_out ?_
      apply w_conv hC []
      · repeat' first | exact CO.nil | apply CO.gone | apply CO.row rfl rfl | apply CO.box rfl rfl | decide
      · rfl
      · decide
      · rfl
  refine t_norm ?_
  refine s_reg ?_
  iterate 2 refine v_op hT hC rfl rfl rfl rfl trivial ?_
  refine Vc.nil ?_
  refine aw_ret ?_
  injection h with h
  subst h
  exact ends (Weak.refl _) rfl trivial
def spec_l05Seq_res (r : ByteArray) : AV := .sv (.str r)
def spec_l05Seq_obs (r : ByteArray) : Objs := []
theorem spec_l05Seq_ac {p0 : Seq} {r : ByteArray} (h : spec_l05Seq p0 = some r) : AC Try.prog 153 [.agg [.sv (.int .i64 p0.Level), .sv (.int .i64 p0.Bits), .sv (.ints .i64 p0.Cols), .sv (.ints .i64 p0.Rows)]] [] (spec_l05Seq_res r) (spec_l05Seq_obs r) := by
  refine ac_of_body hT Try.func153 rfl fun C hC => ?_
  unfold spec_l05Seq at h
  refine s_reg ?_
  iterate 2 refine v_op hT hC rfl rfl rfl rfl trivial ?_
  refine Vc.nil ?_
  refine s_draw hm ?_
  iterate 2 refine v_op hT hC rfl rfl rfl rfl trivial ?_
  obtain ⟨q1, hq, h⟩ := bnd_some h
  refine v_call hC [] rfl rfl rfl rfl Try.call221 (spec_l03Ue_ac hq) rfl (by decide) trivial rfl (.inl rfl) rfl ?_
  iterate 2 refine v_op hT hC rfl rfl rfl rfl trivial ?_
  obtain ⟨q2, hq, h⟩ := bnd_some h
  refine v_call hC [] rfl rfl rfl rfl Try.call222 (spec_l02Fix_ac hq) rfl (by decide) trivial rfl (.inl rfl) rfl ?_
  obtain ⟨hq, h⟩ := req_some h
  refine v_op hT hC rfl rfl rfl rfl hq ?_
  iterate 2 refine v_op hT hC rfl rfl rfl rfl trivial ?_
  obtain ⟨q3, hq, h⟩ := bnd_some h
  refine v_call hC [] rfl rfl rfl rfl Try.call223 (spec_l05List_ac hq) rfl (by decide) trivial rfl (.inl rfl) rfl ?_
  obtain ⟨hq, h⟩ := req_some h
  refine v_op hT hC rfl rfl rfl rfl hq ?_
  iterate 2 refine v_op hT hC rfl rfl rfl rfl trivial ?_
  obtain ⟨q4, hq, h⟩ := bnd_some h
  refine v_call hC [] rfl rfl rfl rfl Try.call223 (spec_l05List_ac hq) rfl (by decide) trivial rfl (.inl rfl) rfl ?_
  obtain ⟨hq, h⟩ := req_some h
  refine v_op hT hC rfl rfl rfl rfl hq ?_
  refine v_op hT hC rfl rfl rfl rfl trivial ?_
  refine Vc.nil ⟨by kernel_rfl, ?_⟩
  refine aw_ret ?_
  injection h with h
  subst h
  exact ends (Weak.refl _) rfl trivial
def spec_l07Kind_res (r : Bool) : AV := .sv (.bool r)
def spec_l07Kind_obs (r : Bool) : Objs := []
theorem spec_l07Kind_ac {p0 : Int} {r : Bool} (h : spec_l07Kind p0 = some r) : AC Try.prog 218 [.sv (.int .i64 p0)] [] (spec_l07Kind_res r) (spec_l07Kind_obs r) := by
  refine ac_of_body hT Try.func218 rfl fun C hC => ?_
  unfold spec_l07Kind at h
  refine s_reg ?_
  refine v_op hT hC rfl rfl rfl rfl trivial ?_
  refine Vc.nil ?_
  refine live [0, 2] [] (s' := [_, _]) (o' := []) rfl rfl ?_
  obtain ⟨v1, h1, h⟩ := bnd_some h
  refine aw_to ([(2, .sv (.bool v1)), (0, .any)], []) ?_ ?_
  · have h := h1
    refine aw_region ?_
    iterate 3 refine v_op hT hC rfl rfl rfl rfl trivial ?_
    rcases sel_some h with ⟨hb1, h⟩ | ⟨hb1, h⟩
    · refine v_off hC rfl rfl rfl rfl hb1 rfl rfl ?_
      refine v_off hC rfl rfl rfl rfl hb1 rfl rfl ?_
      refine v_pick hC rfl rfl rfl (b := true) hb1 rfl rfl rfl trivial ?_
      refine v_op hT hC rfl rfl rfl rfl trivial ?_
      refine v_off hC rfl rfl rfl rfl rfl rfl rfl ?_
      refine v_off hC rfl rfl rfl rfl rfl rfl rfl ?_
      iterate 2 refine v_op hT hC rfl rfl rfl rfl trivial ?_
      refine v_off hC rfl rfl rfl rfl rfl rfl rfl ?_
      refine v_off hC rfl rfl rfl rfl rfl rfl rfl ?_
      iterate 2 refine v_op hT hC rfl rfl rfl rfl trivial ?_
      refine Vc.nil ?_
      injection h with h
      subst h
      refine m_norm ?_
      apply w_conv hC []
      · repeat' first | exact CO.nil | apply CO.gone | apply CO.row rfl rfl | apply CO.box rfl rfl | decide
      · rfl
      · decide
      · rfl
    · iterate 2 refine v_on hT hC rfl rfl rfl rfl hb1 rfl rfl rfl trivial ?_
      refine v_pick hC rfl rfl rfl (b := false) hb1 rfl rfl rfl trivial ?_
      refine v_op hT hC rfl rfl rfl rfl trivial ?_
      rcases sel_some h with ⟨hb2, h⟩ | ⟨hb2, h⟩
      · refine v_off hC rfl rfl rfl rfl hb2 rfl rfl ?_
        refine v_off hC rfl rfl rfl rfl hb2 rfl rfl ?_
        refine v_pick hC rfl rfl rfl (b := true) hb2 rfl rfl rfl trivial ?_
        refine v_op hT hC rfl rfl rfl rfl trivial ?_
        refine v_off hC rfl rfl rfl rfl rfl rfl rfl ?_
        refine v_off hC rfl rfl rfl rfl rfl rfl rfl ?_
        iterate 2 refine v_op hT hC rfl rfl rfl rfl trivial ?_
        refine Vc.nil ?_
        injection h with h
        subst h
        refine m_norm ?_
        apply w_conv hC []
        · repeat' first | exact CO.nil | apply CO.gone | apply CO.row rfl rfl | apply CO.box rfl rfl | decide
        · rfl
        · decide
        · rfl
      · iterate 2 refine v_on hT hC rfl rfl rfl rfl hb2 rfl rfl rfl trivial ?_
        refine v_pick hC rfl rfl rfl (b := false) hb2 rfl rfl rfl trivial ?_
        refine v_op hT hC rfl rfl rfl rfl trivial ?_
        rcases sel_some h with ⟨hb3, h⟩ | ⟨hb3, h⟩
        · refine v_off hC rfl rfl rfl rfl hb3 rfl rfl ?_
          refine v_off hC rfl rfl rfl rfl hb3 rfl rfl ?_
          refine v_pick hC rfl rfl rfl (b := true) hb3 rfl rfl rfl trivial ?_
          refine v_op hT hC rfl rfl rfl rfl trivial ?_
          refine Vc.nil ?_
          injection h with h
          subst h
          refine m_norm ?_
          apply w_conv hC []
          · repeat' first | exact CO.nil | apply CO.gone | apply CO.row rfl rfl | apply CO.box rfl rfl | decide
          · rfl
          · decide
          · rfl
        · iterate 2 refine v_on hT hC rfl rfl rfl rfl hb3 rfl rfl rfl trivial ?_
          refine v_pick hC rfl rfl rfl (b := false) hb3 rfl rfl rfl trivial ?_
          refine v_op hT hC rfl rfl rfl rfl trivial ?_
          refine Vc.nil ?_
          injection h with h
          subst h
          refine m_norm ?_
          apply w_conv hC []
          · repeat' first | exact CO.nil | apply CO.gone | apply CO.row rfl rfl | apply CO.box rfl rfl | decide
          · rfl
          · decide
          · rfl
  refine aw_ret ?_
  injection h with h
  subst h
  exact ends (Weak.refl _) rfl trivial
def spec_l02Row_res (r : Bool) : AV := .sv (.bool r)
def spec_l02Row_obs (r : Bool) : Objs := []
theorem spec_l02Row_ac {p0 : ByteArray} {r : Bool} (h : spec_l02Row p0 = some r) : AC Try.prog 272 [.sv (.str p0)] [] (spec_l02Row_res r) (spec_l02Row_obs r) := by
  refine ac_of_body hT Try.func272 rfl fun C hC => ?_
  unfold spec_l02Row at h
  refine s_reg ?_
  refine v_op hT hC rfl rfl rfl rfl trivial ?_
  refine Vc.nil ?_
  refine s_in ?_
  refine s_reg ?_
  refine v_op hT hC rfl rfl rfl rfl trivial ?_
  refine Vc.nil ?_
  refine live [0, 3] [] (s' := [_, _]) (o' := []) rfl rfl ?_
  obtain ⟨o8, hl, h⟩ := bnd_some h
  refine s_loopR (fun v3 => ([(3, .sv (.int .i64 v3))], [])) (fun v6 => ([(0, .any), (3, .any)], [])) (fun r => EndsA C T Try.f272.results.toList (spec_l02Row_res r) (spec_l02Row_obs r)) hl ?_ ?_ ?_ ?_
  · apply w_conv hC []
    · repeat' first | exact CO.nil | apply CO.gone | apply CO.row rfl rfl | apply CO.box rfl rfl | decide
    · rfl
    · decide
    · rfl
  · intro v3 s hs
    have h := hs
    unfold spec_l02Row_l2 at h
    refine s_in ?_
    refine s_reg ?_
    iterate 4 refine v_op hT hC rfl rfl rfl rfl trivial ?_
    refine Vc.nil ?_
    rcases sel_some h with ⟨hb7, h⟩ | ⟨hb7, h⟩
    · refine s_true rfl hb7 ?_
      refine aw_skip ?_
      refine t_norm ?_
      refine s_in ?_
      refine s_block ?_
      refine live [0, 3] [] (s' := [_, _]) (o' := []) rfl rfl ?_
      obtain ⟨v7, h1, h⟩ := bnd_some h
      refine aw_to ([(19, .sv (.bool v7))], []) ?_ ?_
      · have h := h1
        refine aw_region ?_
        iterate 2 refine v_op hT hC rfl rfl rfl rfl trivial ?_
        obtain ⟨hq, h⟩ := req_some h
        refine v_op hT hC rfl rfl rfl rfl hq ?_
        iterate 2 refine v_op hT hC rfl rfl rfl rfl trivial ?_
        rcases sel_some h with ⟨hb8, h⟩ | ⟨hb8, h⟩
        · iterate 2 refine v_on hT hC rfl rfl rfl rfl hb8 rfl rfl rfl trivial ?_
          obtain ⟨hq, h⟩ := req_some h
          refine v_on hT hC rfl rfl rfl rfl hb8 rfl rfl rfl hq ?_
          refine v_on hT hC rfl rfl rfl rfl hb8 rfl rfl rfl trivial ?_
          refine v_pick hC rfl rfl rfl (b := true) hb8 rfl rfl rfl trivial ?_
          refine Vc.nil ?_
          injection h with h
          subst h
          refine m_norm ?_
          apply w_conv hC []
          · repeat' first | exact CO.nil | apply CO.gone | apply CO.row rfl rfl | apply CO.box rfl rfl | decide
          · rfl
          · decide
          · rfl
        · refine v_off hC rfl rfl rfl rfl hb8 rfl rfl ?_
          refine v_off hC rfl rfl rfl rfl hb8 rfl rfl ?_
          refine v_off hC rfl rfl rfl rfl hb8 rfl rfl ?_
          refine v_off hC rfl rfl rfl rfl hb8 rfl rfl ?_
          refine v_pick hC rfl rfl rfl (b := false) hb8 rfl rfl rfl trivial ?_
          refine Vc.nil ?_
          injection h with h
          subst h
          refine m_norm ?_
          apply w_conv hC []
          · repeat' first | exact CO.nil | apply CO.gone | apply CO.row rfl rfl | apply CO.box rfl rfl | decide
          · rfl
          · decide
          · rfl
      rcases sel_some h with ⟨hb9, h⟩ | ⟨hb9, h⟩
      · refine s_true rfl hb9 ?_
        refine s_reg ?_
        refine v_op hT hC rfl rfl rfl rfl trivial ?_
        refine Vc.nil ?_
        refine aw_ret ?_
        refine b_ret ?_
        refine t_ret ?_
        injection h with h
        subst h
        refine r_ret ?_
        refine o_ret ?_
        exact ends (Weak.refl _) rfl trivial
      · refine s_false rfl hb9 ?_
        refine aw_skip ?_
        refine b_norm ?_
        refine t_norm ?_
        refine aw_region ?_
        iterate 3 refine v_op hT hC rfl rfl rfl rfl trivial ?_
        refine Vc.nil ?_
        injection h with h
        subst h
        refine r_go ?_
        apply w_conv hC []
        · repeat' first | exact CO.nil | apply CO.gone | apply CO.row rfl rfl | apply CO.box rfl rfl | decide
        · rfl
        · decide
        · rfl
    · refine s_false rfl hb7 ?_
      refine aw_exit ?_
      refine t_exit ?_
      injection h with h
      subst h
      refine r_exit ?_
      refine o_both ?_
      apply w_conv hC []
      · repeat' first | exact CO.nil | apply CO.gone | apply CO.row rfl rfl | apply CO.box rfl rfl | decide
      · rfl
      · decide
      · rfl
  · intro v6 e
    subst e
    refine t_norm ?_
    refine s_reg ?_
    refine v_op hT hC rfl rfl rfl rfl trivial ?_
    refine Vc.nil ?_
    refine aw_ret ?_
    injection h with h
    subst h
    exact ends (Weak.refl _) rfl trivial
  · intro r' σ' e hE
    subst e
    injection h with h
    subst h
    refine t_ret ?_
    exact hE
def spec_RowOk_res (r : Bool) : AV := .sv (.bool r)
def spec_RowOk_obs (r : Bool) : Objs := []
theorem spec_RowOk_ac {p0 : ByteArray} {r : Bool} (h : spec_RowOk p0 = some r) : AC Try.prog 219 [.sv (.str p0)] [] (spec_RowOk_res r) (spec_RowOk_obs r) := by
  refine ac_of_body hT Try.func219 rfl fun C hC => ?_
  unfold spec_RowOk at h
  refine s_reg ?_
  refine v_op hT hC rfl rfl rfl rfl trivial ?_
  refine Vc.nil ?_
  refine live [0, 2] [] (s' := [_, _]) (o' := []) rfl rfl ?_
  obtain ⟨v1, h1, h⟩ := bnd_some h
  refine aw_to ([(2, .sv (.bool v1)), (0, .any)], []) ?_ ?_
  · have h := h1
    refine aw_region ?_
    iterate 4 refine v_op hT hC rfl rfl rfl rfl trivial ?_
    rcases sel_some h with ⟨hb1, h⟩ | ⟨hb1, h⟩
    · refine v_on hT hC rfl rfl rfl rfl hb1 rfl rfl rfl trivial ?_
      obtain ⟨q2, hq, h⟩ := bnd_some h
      refine v_call_on hC [] rfl rfl rfl rfl hb1 rfl rfl rfl Try.call272 (spec_l02Row_ac hq) rfl (by decide) trivial rfl (.inl rfl) rfl ?_
      refine v_pick hC rfl rfl rfl (b := true) hb1 rfl rfl rfl trivial ?_
      refine v_op hT hC rfl rfl rfl rfl trivial ?_
      refine Vc.nil ?_
      injection h with h
      subst h
      refine m_norm ?_
      apply w_conv hC []
      · repeat' first | exact CO.nil | apply CO.gone | apply CO.row rfl rfl | apply CO.box rfl rfl | decide
      · rfl
      · decide
      · rfl
    · refine v_off hC rfl rfl rfl rfl hb1 rfl rfl ?_
      refine v_off hC rfl rfl rfl rfl hb1 rfl rfl ?_
      refine v_pick hC rfl rfl rfl (b := false) hb1 rfl rfl rfl trivial ?_
      refine v_op hT hC rfl rfl rfl rfl trivial ?_
      refine Vc.nil ?_
      injection h with h
      subst h
      refine m_norm ?_
      apply w_conv hC []
      · repeat' first | exact CO.nil | apply CO.gone | apply CO.row rfl rfl | apply CO.box rfl rfl | decide
      · rfl
      · decide
      · rfl
  refine aw_ret ?_
  injection h with h
  subst h
  exact ends (Weak.refl _) rfl trivial
end
end Go.Proofs.Ytplmeeookgefnaa.A
