/- Contracts of the functions that the law FnRates reaches, part 0: each comes to what its pure function tells. Written by a program of this session. Conditions: as each statement tells. -/
import Derived.Test.YtplmeeookgefnaaBFnRates
namespace Go.Proofs.Ytplmeeookgefnaa.A
open Go Go.Proofs Go.Proofs.YtplmeeookgefnaaAL Go.RowKit
set_option linter.unusedVariables false
set_option linter.unusedSimpArgs false
set_option maxRecDepth 100000
set_option maxHeartbeats 2000000
noncomputable section
def laws_big_res (r : Bool) : AV := .sv (.bool r)
def laws_big_obs (r : Bool) : Objs := []
theorem laws_big_ac {p0 : (List Int)} {r : Bool} (h : laws_big p0 = some r) : AC Try.prog 18 [.sv (.ints .u8 p0)] [] (laws_big_res r) (laws_big_obs r) := by
  refine ac_of_body hT Try.func18 rfl fun C hC => ?_
  unfold laws_big at h
  refine s_reg ?_
  refine v_op hT hC rfl rfl rfl rfl trivial ?_
  refine Vc.nil ?_
  refine s_reg ?_
  iterate 4 refine v_op hT hC rfl rfl rfl rfl trivial ?_
  refine Vc.nil ?_
  refine aw_ret ?_
  injection h with h
  subst h
  exact ends (Weak.refl _) rfl trivial
def spec_l01New_res (r : L01Cur) : AV := .ptr 16 0
def spec_l01New_obs (r : L01Cur) : Objs := [(16, .box [.sv (.ints .u8 r.b_), .sv (.int .i64 r.i_), .sv (.int .i64 r.h_)])]
theorem spec_l01New_ac {p0 : (List Int)} {r : L01Cur} (h : spec_l01New p0 = some r) : AC Try.prog 97 [.sv (.ints .u8 p0)] [] (spec_l01New_res r) (spec_l01New_obs r) := by
  refine ac_of_body hT Try.func97 rfl fun C hC => ?_
  unfold spec_l01New at h
  refine s_reg ?_
  refine v_op hT hC rfl rfl rfl rfl trivial ?_
  refine Vc.nil ?_
  refine s_reg ?_
  iterate 4 refine v_op hT hC rfl rfl rfl rfl trivial ?_
  refine Vc.nil ?_
  refine s_in ?_
  refine s_reg ?_
  refine v_op hT hC rfl rfl rfl rfl trivial ?_
  refine Vc.nil ?_
  refine live [0, 3, 4] [] (s' := [_, _, _]) (o' := []) rfl rfl ?_
  obtain ⟨v6, hl, h⟩ := bnd_some h
  refine s_loop (fun v3 => ([(3, .sv (.int .i64 v3.1)), (4, .sv (.int .i64 v3.2))], [])) (fun v6 => ([(3, .sv (.int .i64 v6)), (4, .any)], [])) hl ?_ ?_ ?_
  · try dsimp only
    apply w_conv hC []
    · repeat' first | exact CO.nil | apply CO.gone | apply CO.row rfl rfl | apply CO.box rfl rfl | decide
    · rfl
    · decide
    · rfl
  · intro v3 s hs
    have h := hs
    unfold spec_l01New_l2 at h
    refine s_in ?_
    refine live [0, 3, 4] [] (s' := [_, _, _]) (o' := []) rfl rfl ?_
    obtain ⟨v7, h1, h⟩ := bnd_some h
    refine aw_to ([(15, .sv (.bool v7))], []) ?_ ?_
    · have h := h1
      refine aw_region ?_
      iterate 5 refine v_op hT hC rfl rfl rfl rfl trivial ?_
      rcases sel_some h with ⟨hb5, h⟩ | ⟨hb5, h⟩
      · iterate 2 refine v_on hT hC rfl rfl rfl rfl hb5 rfl rfl rfl trivial ?_
        refine v_pick hC rfl rfl rfl (b := true) hb5 rfl rfl rfl trivial ?_
        refine Vc.nil ?_
        injection h with h
        subst h
        refine m_norm ?_
        apply w_conv hC []
        · repeat' first | exact CO.nil | apply CO.gone | apply CO.row rfl rfl | apply CO.box rfl rfl | decide
        · rfl
        · decide
        · rfl
      · refine v_off hC rfl rfl rfl rfl hb5 rfl rfl ?_
        refine v_off hC rfl rfl rfl rfl hb5 rfl rfl ?_
        refine v_pick hC rfl rfl rfl (b := false) hb5 rfl rfl rfl trivial ?_
        refine Vc.nil ?_
        injection h with h
        subst h
        refine m_norm ?_
        apply w_conv hC []
        · repeat' first | exact CO.nil | apply CO.gone | apply CO.row rfl rfl | apply CO.box rfl rfl | decide
        · rfl
        · decide
        · rfl
    rcases sel_some h with ⟨hb6, h⟩ | ⟨hb6, h⟩
    · refine s_true rfl hb6 ?_
      refine aw_skip ?_
      refine t_norm ?_
      refine s_in ?_
      refine s_block ?_
      refine aw_region ?_
      iterate 4 refine v_op hT hC rfl rfl rfl rfl trivial ?_
      obtain ⟨hq, h⟩ := req_some h
      refine v_op hT hC rfl rfl rfl rfl hq ?_
      iterate 6 refine v_op hT hC rfl rfl rfl rfl trivial ?_
      refine Vc.nil ?_
      refine b_norm ?_
      refine t_norm ?_
      refine aw_region ?_
      iterate 3 refine v_op hT hC rfl rfl rfl rfl trivial ?_
      refine Vc.nil ?_
      injection h with h
      subst h
      refine r_go ?_
      try dsimp only
      apply w_conv hC []
      · repeat' first | exact CO.nil | apply CO.gone | apply CO.row rfl rfl | apply CO.box rfl rfl | decide
      · rfl
      · decide
      · rfl
    · refine s_false rfl hb6 ?_
      refine aw_exit ?_
      refine t_exit ?_
      injection h with h
      subst h
      refine r_exit ?_
      refine o_out ?_
      apply w_conv hC []
      · repeat' first | exact CO.nil | apply CO.gone | apply CO.row rfl rfl | apply CO.box rfl rfl | decide
      · rfl
      · decide
      · rfl
  refine t_norm ?_
  refine s_reg ?_
  iterate 5 refine v_op hT hC rfl rfl rfl rfl trivial ?_
  refine Vc.nil ?_
  refine aw_ret ?_
  injection h with h
  subst h
  refine ends (τ := ⟨[(2, .ptr 16 0)], [(16, some (.box [.sv (.ints .u8 p0), .sv (.int .i64 0), .sv (.int .i64 v6)]))]⟩) ?_ rfl ⟨rfl, trivial⟩
  apply w_conv hC [(16, 496)]
  · repeat' first | exact CO.nil | apply CO.gone | apply CO.row rfl rfl | apply CO.box rfl rfl | decide
  · rfl
  · decide
  · rfl
def spec_l01Byte_res (r : (Int × L01Cur)) : AV := .sv (.int .i64 r.1)
def spec_l01Byte_obs (r : (Int × L01Cur)) : Objs := [(0, .box [.sv (.ints .u8 r.2.b_), .sv (.int .i64 r.2.i_), .sv (.int .i64 r.2.h_)])]
theorem spec_l01Byte_ac {p0 : L01Cur} {r : (Int × L01Cur)} (h : spec_l01Byte p0 = some r) : AC Try.prog 100 [.ptr 0 0] [(0, .box [.sv (.ints .u8 p0.b_), .sv (.int .i64 p0.i_), .sv (.int .i64 p0.h_)])] (spec_l01Byte_res r) (spec_l01Byte_obs r) := by
  refine ac_of_body hT Try.func100 rfl fun C hC => ?_
  unfold spec_l01Byte at h
  refine s_reg ?_
  refine v_op hT hC rfl rfl rfl rfl trivial ?_
  refine Vc.nil ?_
  refine s_reg ?_
  iterate 10 refine v_op hT hC rfl rfl rfl rfl trivial ?_
  refine Vc.nil ?_
  refine s_draw hm ?_
  iterate 4 refine v_op hT hC rfl rfl rfl rfl trivial ?_
  obtain ⟨hq, h⟩ := req_some h
  refine v_op hT hC rfl rfl rfl rfl hq ?_
  iterate 4 refine v_op hT hC rfl rfl rfl rfl trivial ?_
  obtain ⟨hq, h⟩ := req_some h
  refine v_op hT hC rfl rfl rfl rfl hq ?_
  iterate 3 refine v_op hT hC rfl rfl rfl rfl trivial ?_
  refine Vc.nil ⟨by kernel_rfl, ?_⟩
  refine live [0, 3] [0] (s' := [_, _]) (o' := [_]) rfl rfl ?_
  obtain ⟨v1, h1, h⟩ := bnd_some h
  refine aw_to ([(3, .sv (.int .i64 v1.1)), (0, .any)], [(0, some (.box [.sv (.ints .u8 p0.b_), .sv (.int .i64 v1.2), .sv (.int .i64 (wrapK .i64 ((wrapK .i64 (p0.h_ * 6364136223846793005)) + 1442695040888963407)))]))]) ?_ ?_
  · have h := h1
    refine s_draw hm ?_
    iterate 10 refine v_op hT hC rfl rfl rfl rfl trivial ?_
    refine Vc.nil ⟨by kernel_rfl, ?_⟩
    rcases sel_some h with ⟨hb1, h⟩ | ⟨hb1, h⟩
    · refine s_true rfl hb1 ?_
      refine s_draw hm ?_
      iterate 9 refine v_op hT hC rfl rfl rfl rfl trivial ?_
      obtain ⟨hq, h⟩ := req_some h
      refine v_op hT hC rfl rfl rfl rfl hq ?_
      iterate 5 refine v_op hT hC rfl rfl rfl rfl trivial ?_
      refine Vc.nil ⟨by kernel_rfl, ?_⟩
      refine aw_region ?_
      iterate 9 refine v_op hT hC rfl rfl rfl rfl trivial ?_
      refine Vc.nil ?_
      injection h with h
      subst h
      refine m_norm ?_
      try dsimp only
      apply w_conv hC []
      · repeat' first | exact CO.nil | apply CO.gone | apply CO.row rfl rfl | apply CO.box rfl rfl | decide
      · rfl
      · decide
      · rfl
    · refine s_false rfl hb1 ?_
      refine aw_skip ?_
      injection h with h
      subst h
      refine m_norm ?_
      try dsimp only
      apply w_conv hC []
      · repeat' first | exact CO.nil | apply CO.gone | apply CO.row rfl rfl | apply CO.box rfl rfl | decide
      · rfl
      · decide
      · rfl
  refine s_reg ?_
  iterate 2 refine v_op hT hC rfl rfl rfl rfl trivial ?_
  refine Vc.nil ?_
  refine aw_ret ?_
  injection h with h
  subst h
  exact ends (Weak.refl _) rfl ⟨rfl, trivial⟩
def spec_l01Below_res (r : (Int × L01Cur)) : AV := .sv (.int .i64 r.1)
def spec_l01Below_obs (r : (Int × L01Cur)) : Objs := [(0, .box [.sv (.ints .u8 r.2.b_), .sv (.int .i64 r.2.i_), .sv (.int .i64 r.2.h_)])]
theorem spec_l01Below_ac {p0 : L01Cur} {p1 : Int} {r : (Int × L01Cur)} (h : spec_l01Below p0 p1 = some r) : AC Try.prog 99 [.ptr 0 0, .sv (.int .i64 p1)] [(0, .box [.sv (.ints .u8 p0.b_), .sv (.int .i64 p0.i_), .sv (.int .i64 p0.h_)])] (spec_l01Below_res r) (spec_l01Below_obs r) := by
  refine ac_of_body hT Try.func99 rfl fun C hC => ?_
  unfold spec_l01Below at h
  refine s_reg ?_
  refine v_op hT hC rfl rfl rfl rfl trivial ?_
  refine Vc.nil ?_
  refine s_in ?_
  refine s_reg ?_
  iterate 2 refine v_op hT hC rfl rfl rfl rfl trivial ?_
  refine Vc.nil ?_
  rcases sel_some h with ⟨hb1, h⟩ | ⟨hb1, h⟩
  · refine s_true rfl hb1 ?_
    refine s_reg ?_
    refine v_op hT hC rfl rfl rfl rfl trivial ?_
    refine Vc.nil ?_
    refine aw_ret ?_
    refine t_ret ?_
    injection h with h
    subst h
    exact ends (Weak.refl _) rfl ⟨rfl, trivial⟩
  · refine s_false rfl hb1 ?_
    refine aw_skip ?_
    refine t_norm ?_
    refine s_in ?_
    refine s_reg ?_
    iterate 2 refine v_op hT hC rfl rfl rfl rfl trivial ?_
    refine Vc.nil ?_
    rcases sel_some h with ⟨hb2, h⟩ | ⟨hb2, h⟩
    · refine s_true rfl hb2 ?_
      refine s_reg ?_
      refine v_op hT hC rfl rfl rfl rfl trivial ?_
      obtain ⟨q1, hq, h⟩ := bnd_some h
      refine v_call hC [(0, 0)] rfl rfl rfl rfl Try.call100 (spec_l01Byte_ac hq) rfl (by decide) ⟨rfl, trivial⟩ rfl (.inl rfl) rfl ?_
      refine v_op hT hC rfl rfl rfl rfl trivial ?_
      obtain ⟨hq, h⟩ := req_some h
      refine v_op hT hC rfl rfl rfl rfl hq ?_
      refine v_op hT hC rfl rfl rfl rfl trivial ?_
      refine Vc.nil ?_
      refine aw_ret ?_
      refine t_ret ?_
      injection h with h
      subst h
      exact ends (Weak.refl _) rfl ⟨rfl, trivial⟩
    · refine s_false rfl hb2 ?_
      refine aw_skip ?_
      refine t_norm ?_
      refine s_reg ?_
      refine v_op hT hC rfl rfl rfl rfl trivial ?_
      obtain ⟨q2, hq, h⟩ := bnd_some h
      refine v_call hC [(0, 0)] rfl rfl rfl rfl Try.call100 (spec_l01Byte_ac hq) rfl (by decide) ⟨rfl, trivial⟩ rfl (.inl rfl) rfl ?_
      refine v_op hT hC rfl rfl rfl rfl trivial ?_
      refine Vc.nil ?_
      refine s_reg ?_
      refine v_op hT hC rfl rfl rfl rfl trivial ?_
      obtain ⟨q3, hq, h⟩ := bnd_some h
      refine v_call hC [(0, 0)] rfl rfl rfl rfl Try.call100 (spec_l01Byte_ac hq) rfl (by decide) ⟨rfl, trivial⟩ rfl (.inl rfl) rfl ?_
      refine v_op hT hC rfl rfl rfl rfl trivial ?_
      refine Vc.nil ?_
      refine s_reg ?_
      refine v_op hT hC rfl rfl rfl rfl trivial ?_
      obtain ⟨q4, hq, h⟩ := bnd_some h
      refine v_call hC [(0, 0)] rfl rfl rfl rfl Try.call100 (spec_l01Byte_ac hq) rfl (by decide) ⟨rfl, trivial⟩ rfl (.inl rfl) rfl ?_
      refine v_op hT hC rfl rfl rfl rfl trivial ?_
      refine Vc.nil ?_
      refine s_reg ?_
      refine v_op hT hC rfl rfl rfl rfl trivial ?_
      obtain ⟨q5, hq, h⟩ := bnd_some h
      refine v_call hC [(0, 0)] rfl rfl rfl rfl Try.call100 (spec_l01Byte_ac hq) rfl (by decide) ⟨rfl, trivial⟩ rfl (.inl rfl) rfl ?_
      refine v_op hT hC rfl rfl rfl rfl trivial ?_
      refine Vc.nil ?_
      refine s_reg ?_
      iterate 11 refine v_op hT hC rfl rfl rfl rfl trivial ?_
      obtain ⟨hq, h⟩ := req_some h
      refine v_op hT hC rfl rfl rfl rfl hq ?_
      refine v_op hT hC rfl rfl rfl rfl trivial ?_
      refine Vc.nil ?_
      refine aw_ret ?_
      injection h with h
      subst h
      exact ends (Weak.refl _) rfl ⟨rfl, trivial⟩
def spec_l18Right_res (r : (Rate × L01Cur)) : AV := .agg [.sv (.int .i64 r.1.Qp), .sv (.int .i64 r.1.Target), .sv (.int .i64 r.1.Debt)]
def spec_l18Right_obs (r : (Rate × L01Cur)) : Objs := [(0, .box [.sv (.ints .u8 r.2.b_), .sv (.int .i64 r.2.i_), .sv (.int .i64 r.2.h_)])]
theorem spec_l18Right_ac {p0 : L01Cur} {r : (Rate × L01Cur)} (h : spec_l18Right p0 = some r) : AC Try.prog 98 [.ptr 0 0] [(0, .box [.sv (.ints .u8 p0.b_), .sv (.int .i64 p0.i_), .sv (.int .i64 p0.h_)])] (spec_l18Right_res r) (spec_l18Right_obs r) := by
  refine ac_of_body hT Try.func98 rfl fun C hC => ?_
  unfold spec_l18Right at h
  refine s_reg ?_
  refine v_op hT hC rfl rfl rfl rfl trivial ?_
  refine Vc.nil ?_
  refine s_reg ?_
  refine v_op hT hC rfl rfl rfl rfl trivial ?_
  obtain ⟨q1, hq, h⟩ := bnd_some h
  refine v_call hC [(0, 0)] rfl rfl rfl rfl Try.call99 (spec_l01Below_ac hq) rfl (by decide) ⟨rfl, trivial⟩ rfl (.inl rfl) rfl ?_
  iterate 2 refine v_op hT hC rfl rfl rfl rfl trivial ?_
  refine Vc.nil ?_
  refine s_reg ?_
  refine v_op hT hC rfl rfl rfl rfl trivial ?_
  obtain ⟨q2, hq, h⟩ := bnd_some h
  refine v_call hC [(0, 0)] rfl rfl rfl rfl Try.call99 (spec_l01Below_ac hq) rfl (by decide) ⟨rfl, trivial⟩ rfl (.inl rfl) rfl ?_
  iterate 5 refine v_op hT hC rfl rfl rfl rfl trivial ?_
  obtain ⟨q3, hq, h⟩ := bnd_some h
  refine v_call hC [(0, 0)] rfl rfl rfl rfl Try.call99 (spec_l01Below_ac hq) rfl (by decide) ⟨rfl, trivial⟩ rfl (.inl rfl) rfl ?_
  iterate 5 refine v_op hT hC rfl rfl rfl rfl trivial ?_
  refine Vc.nil ?_
  refine aw_ret ?_
  injection h with h
  subst h
  exact ends (Weak.refl _) rfl ⟨rfl, trivial⟩
def spec_DrawRate_res (r : (Rate × (List Int))) : AV := .tup [.agg [.sv (.int .i64 r.1.Qp), .sv (.int .i64 r.1.Target), .sv (.int .i64 r.1.Debt)], .own 16]
def spec_DrawRate_obs (r : (Rate × (List Int))) : Objs := [(16, .ints .i64 r.2)]
theorem spec_DrawRate_ac {p0 : (List Int)} {r : (Rate × (List Int))} (h : spec_DrawRate p0 = some r) : AC Try.prog 19 [.sv (.ints .u8 p0)] [] (spec_DrawRate_res r) (spec_DrawRate_obs r) := by
  refine ac_of_body hT Try.func19 rfl fun C hC => ?_
  unfold spec_DrawRate at h
  refine s_reg ?_
  iterate 2 refine v_op hT hC rfl rfl rfl rfl trivial ?_
  refine Vc.nil ?_
  refine s_reg ?_
  refine v_op hT hC rfl rfl rfl rfl trivial ?_
  obtain ⟨q1, hq, h⟩ := bnd_some h
  refine v_call hC [(16, 144)] rfl rfl rfl rfl Try.call97 (spec_l01New_ac hq) rfl (by decide) trivial rfl (.inl rfl) rfl ?_
  refine v_op hT hC rfl rfl rfl rfl trivial ?_
  refine Vc.nil ?_
  refine s_reg ?_
  refine v_op hT hC rfl rfl rfl rfl trivial ?_
  obtain ⟨q2, hq, h⟩ := bnd_some h
  refine v_call hC [(0, 144)] rfl rfl rfl rfl Try.call98 (spec_l18Right_ac hq) rfl (by decide) ⟨rfl, trivial⟩ rfl (.inl rfl) rfl ?_
  iterate 2 refine v_op hT hC rfl rfl rfl rfl trivial ?_
  refine Vc.nil ?_
  refine s_reg ?_
  iterate 2 refine v_op hT hC rfl rfl rfl rfl trivial ?_
  refine Vc.nil ?_
  refine s_in ?_
  refine s_reg ?_
  refine v_op hT hC rfl rfl rfl rfl trivial ?_
  refine Vc.nil ?_
  refine live [2, 4, 5, 6, 7] [32, 80, 144, 192] (s' := [_, _, _, _, _]) (o' := [_, _, _, _]) rfl rfl ?_
  obtain ⟨v10, hl, h⟩ := bnd_some h
  refine s_loop (fun v6 => ([(7, .sv (.int .i64 v6.1))], [(144, some (.box [.sv (.ints .u8 v6.2.1), .sv (.int .i64 v6.2.2.1), .sv (.int .i64 v6.2.2.2.1)])), (192, some (.ints .i64 v6.2.2.2.2))])) (fun v10 => ([(4, .any), (7, .any)], [(192, some (.ints .i64 v10)), (144, none)])) hl ?_ ?_ ?_
  · try dsimp only
    apply w_conv hC []
    · repeat' first | exact CO.nil | apply CO.gone | apply CO.row rfl rfl | apply CO.box rfl rfl | decide
    · rfl
    · decide
    · rfl
  · intro v6 s hs
    have h := hs
    unfold spec_DrawRate_l2 at h
    refine s_in ?_
    refine s_reg ?_
    iterate 2 refine v_op hT hC rfl rfl rfl rfl trivial ?_
    obtain ⟨q11, hq, h⟩ := bnd_some h
    refine v_call hC [(0, 144)] rfl rfl rfl rfl Try.call99 (spec_l01Below_ac hq) rfl (by decide) ⟨rfl, trivial⟩ rfl (.inl rfl) rfl ?_
    iterate 2 refine v_op hT hC rfl rfl rfl rfl trivial ?_
    refine Vc.nil ?_
    rcases sel_some h with ⟨hb3, h⟩ | ⟨hb3, h⟩
    · refine s_true rfl hb3 ?_
      refine aw_skip ?_
      refine t_norm ?_
      refine s_in ?_
      refine s_block ?_
      refine aw_region ?_
      iterate 2 refine v_op hT hC rfl rfl rfl rfl trivial ?_
      obtain ⟨q12, hq, h⟩ := bnd_some h
      refine v_call hC [(0, 144)] rfl rfl rfl rfl Try.call99 (spec_l01Below_ac hq) rfl (by decide) ⟨rfl, trivial⟩ rfl (.inl rfl) rfl ?_
      refine v_op hT hC rfl rfl rfl rfl trivial ?_
      obtain ⟨hq, h⟩ := req_some h
      refine v_op hT hC rfl rfl rfl rfl ⟨trivial, hq⟩ ?_
      refine v_op hT hC rfl rfl rfl rfl trivial ?_
      refine Vc.nil ?_
      refine b_norm ?_
      refine t_norm ?_
      refine aw_region ?_
      iterate 3 refine v_op hT hC rfl rfl rfl rfl trivial ?_
      refine Vc.nil ?_
      injection h with h
      subst h
      refine r_go ?_
      try dsimp only
      apply w_conv hC [(192, 384)]
      · repeat' first | exact CO.nil | apply CO.gone | apply CO.row rfl rfl | apply CO.box rfl rfl | decide
      · rfl
      · decide
      · rfl
    · refine s_false rfl hb3 ?_
      refine aw_exit ?_
      refine t_exit ?_
      injection h with h
      subst h
      refine r_exit ?_
      refine o_out ?_
      apply w_conv hC []
      · repeat' first | exact CO.nil | apply CO.gone | apply CO.row rfl rfl | apply CO.box rfl rfl | decide
      · rfl
      · decide
      · rfl
  refine t_norm ?_
  refine s_reg ?_
  iterate 4 refine v_op hT hC rfl rfl rfl rfl trivial ?_
  refine Vc.nil ?_
  refine aw_ret ?_
  injection h with h
  subst h
  refine ends (τ := ⟨[(2, .ptr 2000000 0), (3, .own 16)], [(16, some (.ints .i64 v10)), (2000000, some (.box [.sv (.int .i64 q2.1.Qp), .sv (.int .i64 q2.1.Target), .sv (.int .i64 q2.1.Debt)]))]⟩) ?_ rfl ⟨rfl, trivial⟩
  apply w_conv hC [(16, 192), (2000000, 32)]
  · repeat' first | exact CO.nil | apply CO.gone | apply CO.row rfl rfl | apply CO.box rfl rfl | decide
  · rfl
  · decide
  · rfl
def spec_DrawPlaces_res (r : (List Int)) : AV := .own 16
def spec_DrawPlaces_obs (r : (List Int)) : Objs := [(16, .ints .i64 r)]
theorem spec_DrawPlaces_ac {p0 : (List Int)} {r : (List Int)} (h : spec_DrawPlaces p0 = some r) : AC Try.prog 20 [.sv (.ints .u8 p0)] [] (spec_DrawPlaces_res r) (spec_DrawPlaces_obs r) := by
  refine ac_of_body hT Try.func20 rfl fun C hC => ?_
  unfold spec_DrawPlaces at h
  refine s_reg ?_
  refine v_op hT hC rfl rfl rfl rfl trivial ?_
  refine Vc.nil ?_
  refine s_reg ?_
  refine v_op hT hC rfl rfl rfl rfl trivial ?_
  obtain ⟨q1, hq, h⟩ := bnd_some h
  refine v_call hC [(16, 112)] rfl rfl rfl rfl Try.call97 (spec_l01New_ac hq) rfl (by decide) trivial rfl (.inl rfl) rfl ?_
  refine v_op hT hC rfl rfl rfl rfl trivial ?_
  refine Vc.nil ?_
  refine s_reg ?_
  refine v_op hT hC rfl rfl rfl rfl trivial ?_
  obtain ⟨q2, hq, h⟩ := bnd_some h
  refine v_call hC [(0, 112)] rfl rfl rfl rfl Try.call100 (spec_l01Byte_ac hq) rfl (by decide) ⟨rfl, trivial⟩ rfl (.inl rfl) rfl ?_
  refine Vc.nil ?_
  refine s_reg ?_
  iterate 2 refine v_op hT hC rfl rfl rfl rfl trivial ?_
  refine Vc.nil ?_
  refine s_in ?_
  refine s_reg ?_
  refine v_op hT hC rfl rfl rfl rfl trivial ?_
  refine Vc.nil ?_
  refine live [3, 4, 5] [112, 160] (s' := [_, _, _]) (o' := [_, _]) rfl rfl ?_
  obtain ⟨v8, hl, h⟩ := bnd_some h
  refine s_loop (fun v5 => ([(5, .sv (.int .i64 v5.1))], [(112, some (.box [.sv (.ints .u8 v5.2.1), .sv (.int .i64 v5.2.2.1), .sv (.int .i64 v5.2.2.2.1)])), (160, some (.ints .i64 v5.2.2.2.2))])) (fun v8 => ([(3, .any), (5, .any)], [(160, some (.ints .i64 v8)), (112, none)])) hl ?_ ?_ ?_
  · try dsimp only
    apply w_conv hC []
    · repeat' first | exact CO.nil | apply CO.gone | apply CO.row rfl rfl | apply CO.box rfl rfl | decide
    · rfl
    · decide
    · rfl
  · intro v5 s hs
    have h := hs
    unfold spec_DrawPlaces_l2 at h
    refine s_in ?_
    refine s_reg ?_
    iterate 2 refine v_op hT hC rfl rfl rfl rfl trivial ?_
    refine Vc.nil ?_
    rcases sel_some h with ⟨hb3, h⟩ | ⟨hb3, h⟩
    · refine s_true rfl hb3 ?_
      refine aw_skip ?_
      refine t_norm ?_
      refine s_in ?_
      refine s_block ?_
      refine aw_region ?_
      iterate 2 refine v_op hT hC rfl rfl rfl rfl trivial ?_
      obtain ⟨q9, hq, h⟩ := bnd_some h
      refine v_call hC [(0, 112)] rfl rfl rfl rfl Try.call99 (spec_l01Below_ac hq) rfl (by decide) ⟨rfl, trivial⟩ rfl (.inl rfl) rfl ?_
      refine v_op hT hC rfl rfl rfl rfl trivial ?_
      obtain ⟨hq, h⟩ := req_some h
      refine v_op hT hC rfl rfl rfl rfl ⟨trivial, hq⟩ ?_
      refine v_op hT hC rfl rfl rfl rfl trivial ?_
      refine Vc.nil ?_
      refine b_norm ?_
      refine t_norm ?_
      refine aw_region ?_
      iterate 3 refine v_op hT hC rfl rfl rfl rfl trivial ?_
      refine Vc.nil ?_
      injection h with h
      subst h
      refine r_go ?_
      try dsimp only
      apply w_conv hC [(160, 304)]
      · repeat' first | exact CO.nil | apply CO.gone | apply CO.row rfl rfl | apply CO.box rfl rfl | decide
      · rfl
      · decide
      · rfl
    · refine s_false rfl hb3 ?_
      refine aw_exit ?_
      refine t_exit ?_
      injection h with h
      subst h
      refine r_exit ?_
      refine o_out ?_
      apply w_conv hC []
      · repeat' first | exact CO.nil | apply CO.gone | apply CO.row rfl rfl | apply CO.box rfl rfl | decide
      · rfl
      · decide
      · rfl
  refine t_norm ?_
  refine s_reg ?_
  iterate 2 refine v_op hT hC rfl rfl rfl rfl trivial ?_
  refine Vc.nil ?_
  refine aw_ret ?_
  injection h with h
  subst h
  refine ends (τ := ⟨[(2, .own 16)], [(16, some (.ints .i64 v8))]⟩) ?_ rfl ⟨rfl, trivial⟩
  apply w_conv hC [(16, 160)]
  · repeat' first | exact CO.nil | apply CO.gone | apply CO.row rfl rfl | apply CO.box rfl rfl | decide
  · rfl
  · decide
  · rfl
def impl_within_res (r : Bool) : AV := .sv (.bool r)
def impl_within_obs (r : Bool) : Objs := []
theorem impl_within_ac {p0 : Int} {p1 : Int} {p2 : Int} {r : Bool} (h : impl_within p0 p1 p2 = some r) : AC Try.prog 102 [.sv (.int .i64 p0), .sv (.int .i64 p1), .sv (.int .i64 p2)] [] (impl_within_res r) (impl_within_obs r) := by
  refine ac_of_body hT Try.func102 rfl fun C hC => ?_
  unfold impl_within at h
  refine s_reg ?_
  refine v_op hT hC rfl rfl rfl rfl trivial ?_
  refine Vc.nil ?_
  refine live [0, 1, 2, 6] [] (s' := [_, _, _, _]) (o' := []) rfl rfl ?_
  obtain ⟨v1, h1, h⟩ := bnd_some h
  refine aw_to ([(6, .sv (.bool v1)), (0, .any), (1, .any), (2, .any)], []) ?_ ?_
  · have h := h1
    refine aw_region ?_
    iterate 4 refine v_op hT hC rfl rfl rfl rfl trivial ?_
    rcases sel_some h with ⟨hb1, h⟩ | ⟨hb1, h⟩
    · iterate 3 refine v_on hT hC rfl rfl rfl rfl hb1 rfl rfl rfl trivial ?_
      refine v_pick hC rfl rfl rfl (b := true) hb1 rfl rfl rfl trivial ?_
      refine v_op hT hC rfl rfl rfl rfl trivial ?_
      refine Vc.nil ?_
      injection h with h
      subst h
      refine m_norm ?_
      apply w_conv hC []
      · repeat' first | exact CO.nil | apply CO.gone | apply CO.row rfl rfl | apply CO.box rfl rfl | decide
      · rfl
      · decide
      · rfl
    · refine v_off hC rfl rfl rfl rfl hb1 rfl rfl ?_
      refine v_off hC rfl rfl rfl rfl hb1 rfl rfl ?_
      refine v_off hC rfl rfl rfl rfl hb1 rfl rfl ?_
      refine v_pick hC rfl rfl rfl (b := false) hb1 rfl rfl rfl trivial ?_
      refine v_op hT hC rfl rfl rfl rfl trivial ?_
      refine Vc.nil ?_
      injection h with h
      subst h
      refine m_norm ?_
      apply w_conv hC []
      · repeat' first | exact CO.nil | apply CO.gone | apply CO.row rfl rfl | apply CO.box rfl rfl | decide
      · rfl
      · decide
      · rfl
  refine aw_ret ?_
  injection h with h
  subst h
  exact ends (Weak.refl _) rfl trivial
def impl_RateOk_res (r : Bool) : AV := .sv (.bool r)
def impl_RateOk_obs (r : Bool) : Objs := []
theorem impl_RateOk_ac {p0 : Rate} {r : Bool} (h : impl_RateOk p0 = some r) : AC Try.prog 23 [.agg [.sv (.int .i64 p0.Qp), .sv (.int .i64 p0.Target), .sv (.int .i64 p0.Debt)]] [] (impl_RateOk_res r) (impl_RateOk_obs r) := by
  refine ac_of_body hT Try.func23 rfl fun C hC => ?_
  unfold impl_RateOk at h
  refine s_reg ?_
  iterate 2 refine v_op hT hC rfl rfl rfl rfl trivial ?_
  refine Vc.nil ?_
  refine live [1, 2] [16] (s' := [_, _]) (o' := [_]) rfl rfl ?_
  obtain ⟨v1, h1, h⟩ := bnd_some h
  refine aw_to ([(2, .sv (.bool v1)), (1, .any)], [(16, none)]) ?_ ?_
  · have h := h1
    refine aw_region ?_
    iterate 2 refine v_op hT hC rfl rfl rfl rfl trivial ?_
    obtain ⟨q2, hq, h⟩ := bnd_some h
    refine v_call hC [] rfl rfl rfl rfl Try.call102 (impl_within_ac hq) rfl (by decide) trivial rfl (.inl rfl) rfl ?_
    refine v_op hT hC rfl rfl rfl rfl trivial ?_
    rcases sel_some h with ⟨hb1, h⟩ | ⟨hb1, h⟩
    · iterate 2 refine v_on hT hC rfl rfl rfl rfl hb1 rfl rfl rfl trivial ?_
      obtain ⟨q3, hq, h⟩ := bnd_some h
      refine v_call_on hC [] rfl rfl rfl rfl hb1 rfl rfl rfl Try.call102 (impl_within_ac hq) rfl (by decide) trivial rfl (.inl rfl) rfl ?_
      refine v_pick hC rfl rfl rfl (b := true) hb1 rfl rfl rfl trivial ?_
      refine v_op hT hC rfl rfl rfl rfl trivial ?_
      rcases sel_some h with ⟨hb2, h⟩ | ⟨hb2, h⟩
      · iterate 8 refine v_on hT hC rfl rfl rfl rfl hb2 rfl rfl rfl trivial ?_
        obtain ⟨q4, hq, h⟩ := bnd_some h
        refine v_call_on hC [] rfl rfl rfl rfl hb2 rfl rfl rfl Try.call102 (impl_within_ac hq) rfl (by decide) trivial rfl (.inl rfl) rfl ?_
        refine v_pick hC rfl rfl rfl (b := true) hb2 rfl rfl rfl trivial ?_
        refine v_op hT hC rfl rfl rfl rfl trivial ?_
        refine Vc.nil ?_
        injection h with h
        subst h
        refine m_norm ?_
        apply w_conv hC []
        · repeat' first | exact CO.nil | apply CO.gone | apply CO.row rfl rfl | apply CO.box rfl rfl | decide
        · rfl
        · decide
        · rfl
      · refine v_off hC rfl rfl rfl rfl hb2 rfl rfl ?_
        refine v_off hC rfl rfl rfl rfl hb2 rfl rfl ?_
        refine v_off hC rfl rfl rfl rfl hb2 rfl rfl ?_
        refine v_off hC rfl rfl rfl rfl hb2 rfl rfl ?_
        refine v_off hC rfl rfl rfl rfl hb2 rfl rfl ?_
        refine v_off hC rfl rfl rfl rfl hb2 rfl rfl ?_
        refine v_off hC rfl rfl rfl rfl hb2 rfl rfl ?_
        refine v_off hC rfl rfl rfl rfl hb2 rfl rfl ?_
        refine v_off hC rfl rfl rfl rfl hb2 rfl rfl ?_
        refine v_pick hC rfl rfl rfl (b := false) hb2 rfl rfl rfl trivial ?_
        refine v_op hT hC rfl rfl rfl rfl trivial ?_
        refine Vc.nil ?_
        injection h with h
        subst h
        refine m_norm ?_
        apply w_conv hC []
        · repeat' first | exact CO.nil | apply CO.gone | apply CO.row rfl rfl | apply CO.box rfl rfl | decide
        · rfl
        · decide
        · rfl
    · refine v_off hC rfl rfl rfl rfl hb1 rfl rfl ?_
      refine v_off hC rfl rfl rfl rfl hb1 rfl rfl ?_
      refine v_off hC rfl rfl rfl rfl hb1 rfl rfl ?_
      refine v_pick hC rfl rfl rfl (b := false) hb1 rfl rfl rfl trivial ?_
      refine v_op hT hC rfl rfl rfl rfl trivial ?_
      refine v_off hC rfl rfl rfl rfl rfl rfl rfl ?_
      refine v_off hC rfl rfl rfl rfl rfl rfl rfl ?_
      refine v_off hC rfl rfl rfl rfl rfl rfl rfl ?_
      refine v_off hC rfl rfl rfl rfl rfl rfl rfl ?_
      refine v_off hC rfl rfl rfl rfl rfl rfl rfl ?_
      refine v_off hC rfl rfl rfl rfl rfl rfl rfl ?_
      refine v_off hC rfl rfl rfl rfl rfl rfl rfl ?_
      refine v_off hC rfl rfl rfl rfl rfl rfl rfl ?_
      refine v_off hC rfl rfl rfl rfl rfl rfl rfl ?_
      iterate 2 refine v_op hT hC rfl rfl rfl rfl trivial ?_
      refine Vc.nil ?_
      injection h with h
      subst h
      refine m_norm ?_
      apply w_conv hC []
      · repeat' first | exact CO.nil | apply CO.gone | apply CO.row rfl rfl | apply CO.box rfl rfl | decide
      · rfl
      · decide
      · rfl
  refine aw_ret ?_
  injection h with h
  subst h
  exact ends (Weak.refl _) rfl trivial
def impl_Brought_res (r : Int) : AV := .sv (.int .i64 r)
def impl_Brought_obs (r : Int) : Objs := []
theorem impl_Brought_ac {p0 : Int} {p1 : Int} {p2 : Int} {r : Int} (h : impl_Brought p0 p1 p2 = some r) : AC Try.prog 101 [.sv (.int .i64 p0), .sv (.int .i64 p1), .sv (.int .i64 p2)] [] (impl_Brought_res r) (impl_Brought_obs r) := by
  refine ac_of_body hT Try.func101 rfl fun C hC => ?_
  unfold impl_Brought at h
  refine s_reg ?_
  refine v_op hT hC rfl rfl rfl rfl trivial ?_
  refine Vc.nil ?_
  refine s_reg ?_
  iterate 6 refine v_op hT hC rfl rfl rfl rfl trivial ?_
  refine Vc.nil ?_
  refine aw_ret ?_
  injection h with h
  subst h
  exact ends (Weak.refl _) rfl trivial
def impl_RateNext_res (r : Rate) : AV := .agg [.sv (.int .i64 r.Qp), .sv (.int .i64 r.Target), .sv (.int .i64 r.Debt)]
def impl_RateNext_obs (r : Rate) : Objs := []
theorem impl_RateNext_ac {p0 : Rate} {p1 : Int} {r : Rate} (h : impl_RateNext p0 p1 = some r) : AC Try.prog 22 [.agg [.sv (.int .i64 p0.Qp), .sv (.int .i64 p0.Target), .sv (.int .i64 p0.Debt)], .sv (.int .i64 p1)] [] (impl_RateNext_res r) (impl_RateNext_obs r) := by
  refine ac_of_body hT Try.func22 rfl fun C hC => ?_
  unfold impl_RateNext at h
  refine s_reg ?_
  iterate 2 refine v_op hT hC rfl rfl rfl rfl trivial ?_
  refine Vc.nil ?_
  refine s_in ?_
  refine s_reg ?_
  refine v_op hT hC rfl rfl rfl rfl trivial ?_
  obtain ⟨q1, hq, h⟩ := bnd_some h
  refine v_call hC [] rfl rfl rfl rfl Try.call23 (impl_RateOk_ac hq) rfl (by decide) trivial rfl (.inl rfl) rfl ?_
  refine v_op hT hC rfl rfl rfl rfl trivial ?_
  refine Vc.nil ?_
  rcases sel_some h with ⟨hb1, h⟩ | ⟨hb1, h⟩
  · refine s_true rfl hb1 ?_
    refine s_reg ?_
    iterate 2 refine v_op hT hC rfl rfl rfl rfl trivial ?_
    refine Vc.nil ?_
    refine aw_ret ?_
    refine t_ret ?_
    injection h with h
    subst h
    exact ends (Weak.refl _) rfl trivial
  · refine s_false rfl hb1 ?_
    refine aw_skip ?_
    refine t_norm ?_
    refine s_draw hm ?_
    iterate 3 refine v_op hT hC rfl rfl rfl rfl trivial ?_
    obtain ⟨q2, hq, h⟩ := bnd_some h
    refine v_call hC [] rfl rfl rfl rfl Try.call101 (impl_Brought_ac hq) rfl (by decide) trivial rfl (.inl rfl) rfl ?_
    iterate 10 refine v_op hT hC rfl rfl rfl rfl trivial ?_
    obtain ⟨q3, hq, h⟩ := bnd_some h
    refine v_call hC [] rfl rfl rfl rfl Try.call101 (impl_Brought_ac hq) rfl (by decide) trivial rfl (.inl rfl) rfl ?_
    iterate 2 refine v_op hT hC rfl rfl rfl rfl trivial ?_
    refine Vc.nil ⟨by kernel_rfl, ?_⟩
    refine live [2, 4] [32, 64] (s' := [_, _]) (o' := [_, _]) rfl rfl ?_
    obtain ⟨v4, h1, h⟩ := bnd_some h
    refine aw_to ([], [(32, some (.box [.sv (.int .i64 v4), .sv (.int .i64 p0.Target), .sv (.int .i64 q3)]))]) ?_ ?_
    · have h := h1
      refine s_block ?_
      refine s_reg ?_
      iterate 6 refine v_op hT hC rfl rfl rfl rfl trivial ?_
      refine Vc.nil ?_
      rcases sel_some h with ⟨hb2, h⟩ | ⟨hb2, h⟩
      · refine s_true rfl hb2 ?_
        refine aw_region ?_
        iterate 5 refine v_op hT hC rfl rfl rfl rfl trivial ?_
        refine Vc.nil ?_
        refine b_norm ?_
        injection h with h
        subst h
        refine m_norm ?_
        apply w_conv hC []
        · repeat' first | exact CO.nil | apply CO.gone | apply CO.row rfl rfl | apply CO.box rfl rfl | decide
        · rfl
        · decide
        · rfl
      · refine s_false rfl hb2 ?_
        refine s_reg ?_
        iterate 7 refine v_op hT hC rfl rfl rfl rfl trivial ?_
        refine Vc.nil ?_
        rcases sel_some h with ⟨hb3, h⟩ | ⟨hb3, h⟩
        · refine s_true rfl hb3 ?_
          refine aw_region ?_
          iterate 5 refine v_op hT hC rfl rfl rfl rfl trivial ?_
          refine Vc.nil ?_
          refine b_norm ?_
          injection h with h
          subst h
          refine m_norm ?_
          apply w_conv hC []
          · repeat' first | exact CO.nil | apply CO.gone | apply CO.row rfl rfl | apply CO.box rfl rfl | decide
          · rfl
          · decide
          · rfl
        · refine s_false rfl hb3 ?_
          refine aw_skip ?_
          refine b_norm ?_
          injection h with h
          subst h
          refine m_norm ?_
          apply w_conv hC []
          · repeat' first | exact CO.nil | apply CO.gone | apply CO.row rfl rfl | apply CO.box rfl rfl | decide
          · rfl
          · decide
          · rfl
    refine s_reg ?_
    iterate 2 refine v_op hT hC rfl rfl rfl rfl trivial ?_
    obtain ⟨q5, hq, h⟩ := bnd_some h
    refine v_call hC [] rfl rfl rfl rfl Try.call101 (impl_Brought_ac hq) rfl (by decide) trivial rfl (.inl rfl) rfl ?_
    iterate 2 refine v_op hT hC rfl rfl rfl rfl trivial ?_
    refine Vc.nil ?_
    refine s_reg ?_
    iterate 2 refine v_op hT hC rfl rfl rfl rfl trivial ?_
    refine Vc.nil ?_
    refine aw_ret ?_
    injection h with h
    subst h
    exact ends (Weak.refl _) rfl trivial
def impl_RateRun_res (r : Rate) : AV := .agg [.sv (.int .i64 r.Qp), .sv (.int .i64 r.Target), .sv (.int .i64 r.Debt)]
def impl_RateRun_obs (r : Rate) : Objs := []
theorem impl_RateRun_ac {p0 : Rate} {p1 : (List Int)} {r : Rate} (h : impl_RateRun p0 p1 = some r) : AC Try.prog 21 [.agg [.sv (.int .i64 p0.Qp), .sv (.int .i64 p0.Target), .sv (.int .i64 p0.Debt)], .sv (.ints .i64 p1)] [] (impl_RateRun_res r) (impl_RateRun_obs r) := by
  refine ac_of_body hT Try.func21 rfl fun C hC => ?_
  unfold impl_RateRun at h
  refine s_reg ?_
  iterate 2 refine v_op hT hC rfl rfl rfl rfl trivial ?_
  refine Vc.nil ?_
  refine s_in ?_
  refine s_reg ?_
  iterate 3 refine v_op hT hC rfl rfl rfl rfl trivial ?_
  refine Vc.nil ?_
  rcases sel_some h with ⟨hb1, h⟩ | ⟨hb1, h⟩
  · refine s_true rfl hb1 ?_
    refine s_reg ?_
    iterate 2 refine v_op hT hC rfl rfl rfl rfl trivial ?_
    refine Vc.nil ?_
    refine aw_ret ?_
    refine t_ret ?_
    injection h with h
    subst h
    exact ends (Weak.refl _) rfl trivial
  · refine s_false rfl hb1 ?_
    refine aw_skip ?_
    refine t_norm ?_
    refine s_in ?_
    refine s_reg ?_
    iterate 3 refine v_op hT hC rfl rfl rfl rfl trivial ?_
    refine Vc.nil ?_
    refine live [2, 4, 11, 12, 13] [32, 64] (s' := [_, _, _, _, _]) (o' := [_, _]) rfl rfl ?_
    obtain ⟨v6, hl, h⟩ := bnd_some h
    refine s_loop (fun v3 => ([(13, .sv (.int .i64 v3.1))], [(32, some (.box [.sv (.int .i64 v3.2.1), .sv (.int .i64 v3.2.2.1), .sv (.int .i64 v3.2.2.2)]))])) (fun v6 => ([(11, .any), (12, .any), (13, .any)], [(32, some (.box [.sv (.int .i64 v6.1), .sv (.int .i64 v6.2.1), .sv (.int .i64 v6.2.2)]))])) hl ?_ ?_ ?_
    · try dsimp only
      apply w_conv hC []
      · repeat' first | exact CO.nil | apply CO.gone | apply CO.row rfl rfl | apply CO.box rfl rfl | decide
      · rfl
      · decide
      · rfl
    · intro v3 s hs
      have h := hs
      unfold impl_RateRun_l2 at h
      refine s_reg ?_
      refine v_op hT hC rfl rfl rfl rfl trivial ?_
      refine Vc.nil ?_
      refine s_in ?_
      rcases sel_some h with ⟨hb4, h⟩ | ⟨hb4, h⟩
      · refine s_true rfl hb4 ?_
        refine aw_skip ?_
        refine t_norm ?_
        refine s_in ?_
        refine s_block ?_
        refine s_reg ?_
        obtain ⟨hq, h⟩ := req_some h
        refine v_op hT hC rfl rfl rfl rfl hq ?_
        iterate 2 refine v_op hT hC rfl rfl rfl rfl trivial ?_
        refine Vc.nil ?_
        refine aw_region ?_
        iterate 2 refine v_op hT hC rfl rfl rfl rfl trivial ?_
        obtain ⟨q7, hq, h⟩ := bnd_some h
        refine v_call hC [] rfl rfl rfl rfl Try.call22 (impl_RateNext_ac hq) rfl (by decide) trivial rfl (.inl rfl) rfl ?_
        refine v_op hT hC rfl rfl rfl rfl trivial ?_
        refine Vc.nil ?_
        refine b_norm ?_
        refine t_norm ?_
        refine aw_region ?_
        iterate 2 refine v_op hT hC rfl rfl rfl rfl trivial ?_
        refine Vc.nil ?_
        injection h with h
        subst h
        refine r_go ?_
        try dsimp only
        apply w_conv hC []
        · repeat' first | exact CO.nil | apply CO.gone | apply CO.row rfl rfl | apply CO.box rfl rfl | decide
        · rfl
        · decide
        · rfl
      · refine s_false rfl hb4 ?_
        refine aw_exit ?_
        refine t_exit ?_
        injection h with h
        subst h
        refine r_exit ?_
        refine o_out ?_
        try dsimp only
        apply w_conv hC []
        · repeat' first | exact CO.nil | apply CO.gone | apply CO.row rfl rfl | apply CO.box rfl rfl | decide
        · rfl
        · decide
        · rfl
    refine t_norm ?_
    refine s_reg ?_
    iterate 2 refine v_op hT hC rfl rfl rfl rfl trivial ?_
    refine Vc.nil ?_
    refine aw_ret ?_
    injection h with h
    subst h
    exact ends (Weak.refl _) rfl trivial
def impl_QpFor_res (r : Int) : AV := .sv (.int .i64 r)
def impl_QpFor_obs (r : Int) : Objs := []
theorem impl_QpFor_ac {p0 : Rate} {p1 : Bool} {r : Int} (h : impl_QpFor p0 p1 = some r) : AC Try.prog 24 [.agg [.sv (.int .i64 p0.Qp), .sv (.int .i64 p0.Target), .sv (.int .i64 p0.Debt)], .sv (.bool p1)] [] (impl_QpFor_res r) (impl_QpFor_obs r) := by
  refine ac_of_body hT Try.func24 rfl fun C hC => ?_
  unfold impl_QpFor at h
  refine s_reg ?_
  iterate 2 refine v_op hT hC rfl rfl rfl rfl trivial ?_
  refine Vc.nil ?_
  refine s_in ?_
  refine s_block ?_
  refine s_reg ?_
  refine v_op hT hC rfl rfl rfl rfl trivial ?_
  obtain ⟨q1, hq, h⟩ := bnd_some h
  refine v_call hC [] rfl rfl rfl rfl Try.call23 (impl_RateOk_ac hq) rfl (by decide) trivial rfl (.inl rfl) rfl ?_
  iterate 2 refine v_op hT hC rfl rfl rfl rfl trivial ?_
  refine Vc.nil ?_
  rcases sel_some h with ⟨hb1, h⟩ | ⟨hb1, h⟩
  · refine s_true rfl hb1 ?_
    refine s_reg ?_
    refine v_op hT hC rfl rfl rfl rfl trivial ?_
    refine Vc.nil ?_
    refine aw_ret ?_
    refine b_ret ?_
    refine t_ret ?_
    injection h with h
    subst h
    exact ends (Weak.refl _) rfl trivial
  · refine s_false rfl hb1 ?_
    refine s_reg ?_
    iterate 2 refine v_op hT hC rfl rfl rfl rfl trivial ?_
    refine Vc.nil ?_
    rcases sel_some h with ⟨hb2, h⟩ | ⟨hb2, h⟩
    · refine s_true rfl hb2 ?_
      refine s_reg ?_
      iterate 5 refine v_op hT hC rfl rfl rfl rfl trivial ?_
      refine Vc.nil ?_
      refine aw_ret ?_
      refine b_ret ?_
      refine t_ret ?_
      injection h with h
      subst h
      exact ends (Weak.refl _) rfl trivial
    · refine s_false rfl hb2 ?_
      refine aw_skip ?_
      refine b_norm ?_
      refine t_norm ?_
      refine s_reg ?_
      iterate 3 refine v_op hT hC rfl rfl rfl rfl trivial ?_
      refine Vc.nil ?_
      refine aw_ret ?_
      injection h with h
      subst h
      exact ends (Weak.refl _) rfl trivial
def laws_FnRates_res (r : Bool) : AV := .sv (.bool r)
def laws_FnRates_obs (r : Bool) : Objs := []
theorem laws_FnRates_ac {p0 : (List Int)} {r : Bool} (h : laws_FnRates p0 = some r) : AC Try.prog 3 [.sv (.ints .u8 p0)] [] (laws_FnRates_res r) (laws_FnRates_obs r) := by
  refine ac_of_body hT Try.func3 rfl fun C hC => ?_
  unfold laws_FnRates at h
  refine s_reg ?_
  refine v_op hT hC rfl rfl rfl rfl trivial ?_
  refine Vc.nil ?_
  refine s_in ?_
  refine s_reg ?_
  refine v_op hT hC rfl rfl rfl rfl trivial ?_
  obtain ⟨q1, hq, h⟩ := bnd_some h
  refine v_call hC [] rfl rfl rfl rfl Try.call18 (laws_big_ac hq) rfl (by decide) trivial rfl (.inl rfl) rfl ?_
  refine Vc.nil ?_
  rcases sel_some h with ⟨hb1, h⟩ | ⟨hb1, h⟩
  · refine s_true rfl hb1 ?_
    refine s_reg ?_
    refine v_op hT hC rfl rfl rfl rfl trivial ?_
    refine Vc.nil ?_
    refine aw_ret ?_
    refine t_ret ?_
    injection h with h
    subst h
    exact ends (Weak.refl _) rfl trivial
  · refine s_false rfl hb1 ?_
    refine aw_skip ?_
    refine t_norm ?_
    refine s_reg ?_
    refine v_op hT hC rfl rfl rfl rfl trivial ?_
    obtain ⟨q2, hq, h⟩ := bnd_some h
    refine v_call hC [(16, 256)] rfl rfl rfl rfl Try.call19 (spec_DrawRate_ac hq) rfl (by decide) trivial rfl (.inl rfl) rfl ?_
    iterate 6 refine v_op hT hC rfl rfl rfl rfl trivial ?_
    refine Vc.nil ?_
    refine s_reg ?_
    refine v_op hT hC rfl rfl rfl rfl trivial ?_
    obtain ⟨q3, hq, h⟩ := bnd_some h
    refine v_call hC [(16, 320)] rfl rfl rfl rfl Try.call20 (spec_DrawPlaces_ac hq) rfl (by decide) trivial rfl (.inl rfl) rfl ?_
    refine v_op hT hC rfl rfl rfl rfl trivial ?_
    refine Vc.nil ?_
    refine s_reg ?_
    refine v_op hT hC rfl rfl rfl rfl trivial ?_
    obtain ⟨hq, h⟩ := req_some h
    refine v_op hT hC rfl rfl rfl rfl hq ?_
    obtain ⟨hq, h⟩ := req_some h
    refine v_op hT hC rfl rfl rfl rfl hq ?_
    iterate 3 refine v_op hT hC rfl rfl rfl rfl trivial ?_
    obtain ⟨hq, h⟩ := req_some h
    refine v_op hT hC rfl rfl rfl rfl hq ?_
    refine v_op hT hC rfl rfl rfl rfl trivial ?_
    refine Vc.nil ?_
    refine s_draw hm ?_
    iterate 3 refine v_op hT hC rfl rfl rfl rfl trivial ?_
    obtain ⟨hq, h⟩ := req_some h
    refine v_op hT hC rfl rfl rfl rfl ⟨trivial, hq⟩ ?_
    obtain ⟨q4, hq, h⟩ := bnd_some h
    refine v_call hC [] rfl rfl rfl rfl Try.call21 (impl_RateRun_ac hq) rfl (by decide) trivial rfl (.inr ⟨rfl, trivial⟩) rfl ?_
    iterate 2 refine v_op hT hC rfl rfl rfl rfl trivial ?_
    refine Vc.nil ⟨by kernel_rfl, ?_⟩
    refine s_draw hm ?_
    iterate 4 refine v_op hT hC rfl rfl rfl rfl trivial ?_
    obtain ⟨hq, h⟩ := req_some h
    refine v_op hT hC rfl rfl rfl rfl hq ?_
    obtain ⟨hq, h⟩ := req_some h
    refine v_op hT hC rfl rfl rfl rfl ⟨hq.1, hq.2⟩ ?_
    obtain ⟨q5, hq, h⟩ := bnd_some h
    refine v_call hC [] rfl rfl rfl rfl Try.call21 (impl_RateRun_ac hq) rfl (by decide) trivial rfl (.inr ⟨rfl, trivial⟩) rfl ?_
    iterate 3 refine v_op hT hC rfl rfl rfl rfl trivial ?_
    obtain ⟨hq, h⟩ := req_some h
    refine v_op hT hC rfl rfl rfl rfl hq ?_
    obtain ⟨hq, h⟩ := req_some h
    refine v_op hT hC rfl rfl rfl rfl ⟨hq.1, hq.2⟩ ?_
    obtain ⟨q6, hq, h⟩ := bnd_some h
    refine v_call hC [] rfl rfl rfl rfl Try.call21 (impl_RateRun_ac hq) rfl (by decide) trivial rfl (.inr ⟨rfl, trivial⟩) rfl ?_
    iterate 2 refine v_op hT hC rfl rfl rfl rfl trivial ?_
    refine Vc.nil ⟨by kernel_rfl, ?_⟩
    refine s_draw hm ?_
    iterate 2 refine v_op hT hC rfl rfl rfl rfl trivial ?_
    obtain ⟨hq, h⟩ := req_some h
    refine v_op hT hC rfl rfl rfl rfl hq ?_
    obtain ⟨hq, h⟩ := req_some h
    refine v_op hT hC rfl rfl rfl rfl hq ?_
    obtain ⟨q7, hq, h⟩ := bnd_some h
    refine v_call hC [] rfl rfl rfl rfl Try.call22 (impl_RateNext_ac hq) rfl (by decide) trivial rfl (.inl rfl) rfl ?_
    iterate 2 refine v_op hT hC rfl rfl rfl rfl trivial ?_
    refine Vc.nil ⟨by kernel_rfl, ?_⟩
    refine s_draw hm ?_
    iterate 2 refine v_op hT hC rfl rfl rfl rfl trivial ?_
    obtain ⟨hq, h⟩ := req_some h
    refine v_op hT hC rfl rfl rfl rfl hq ?_
    obtain ⟨hq, h⟩ := req_some h
    refine v_op hT hC rfl rfl rfl rfl hq ?_
    refine v_op hT hC rfl rfl rfl rfl trivial ?_
    obtain ⟨hq, h⟩ := req_some h
    refine v_op hT hC rfl rfl rfl rfl hq ?_
    obtain ⟨hq, h⟩ := req_some h
    refine v_op hT hC rfl rfl rfl rfl hq ?_
    refine v_op hT hC rfl rfl rfl rfl trivial ?_
    obtain ⟨q8, hq, h⟩ := bnd_some h
    refine v_call hC [] rfl rfl rfl rfl Try.call22 (impl_RateNext_ac hq) rfl (by decide) trivial rfl (.inl rfl) rfl ?_
    iterate 2 refine v_op hT hC rfl rfl rfl rfl trivial ?_
    refine Vc.nil ⟨by kernel_rfl, ?_⟩
    refine s_reg ?_
    iterate 6 refine v_op hT hC rfl rfl rfl rfl trivial ?_
    refine Vc.nil ?_
    refine live [2, 3, 7, 8, 9, 10, 11] [48, 112, 128, 144, 160] (s' := [_, _, _, _, _, _, _]) (o' := [_, _, _, _, _]) rfl rfl ?_
    obtain ⟨v9, h1, h⟩ := bnd_some h
    refine aw_to ([(2, .sv (.bool v9)), (3, .any), (7, .any), (8, .any), (9, .any), (10, .any), (11, .any)], [(48, none), (112, none), (128, none), (144, none), (160, none)]) ?_ ?_
    · have h := h1
      refine aw_draw hm ?_
      refine v_op hT hC rfl rfl rfl rfl trivial ?_
      obtain ⟨q10, hq, h⟩ := bnd_some h
      refine v_call hC [] rfl rfl rfl rfl Try.call23 (impl_RateOk_ac hq) rfl (by decide) trivial rfl (.inl rfl) rfl ?_
      refine v_op hT hC rfl rfl rfl rfl trivial ?_
      rcases sel_some h with ⟨hb2, h⟩ | ⟨hb2, h⟩
      · refine v_on hT hC rfl rfl rfl rfl hb2 rfl rfl rfl trivial ?_
        obtain ⟨q11, hq, h⟩ := bnd_some h
        refine v_call_on hC [] rfl rfl rfl rfl hb2 rfl rfl rfl Try.call23 (impl_RateOk_ac hq) rfl (by decide) trivial rfl (.inl rfl) rfl ?_
        refine v_pick hC rfl rfl rfl (b := true) hb2 rfl rfl rfl trivial ?_
        refine v_op hT hC rfl rfl rfl rfl trivial ?_
        rcases sel_some h with ⟨hb3, h⟩ | ⟨hb3, h⟩
        · iterate 2 refine v_on hT hC rfl rfl rfl rfl hb3 rfl rfl rfl trivial ?_
          refine v_eq_on hC rfl rfl rfl rfl hb3 rfl rfl rfl eq_t25 rfl rfl ?_
          refine v_pick hC rfl rfl rfl (b := true) hb3 rfl rfl rfl trivial ?_
          refine v_op hT hC rfl rfl rfl rfl trivial ?_
          rcases sel_some h with ⟨hb4, h⟩ | ⟨hb4, h⟩
          · iterate 5 refine v_on hT hC rfl rfl rfl rfl hb4 rfl rfl rfl trivial ?_
            refine v_pick hC rfl rfl rfl (b := true) hb4 rfl rfl rfl trivial ?_
            refine v_op hT hC rfl rfl rfl rfl trivial ?_
            rcases sel_some h with ⟨hb5, h⟩ | ⟨hb5, h⟩
            · iterate 2 refine v_on hT hC rfl rfl rfl rfl hb5 rfl rfl rfl trivial ?_
              refine v_pick hC rfl rfl rfl (b := true) hb5 rfl rfl rfl trivial ?_
              refine v_op hT hC rfl rfl rfl rfl trivial ?_
              rcases sel_some h with ⟨hb6, h⟩ | ⟨hb6, h⟩
              · iterate 2 refine v_on hT hC rfl rfl rfl rfl hb6 rfl rfl rfl trivial ?_
                refine v_pick hC rfl rfl rfl (b := true) hb6 rfl rfl rfl trivial ?_
                refine v_op hT hC rfl rfl rfl rfl trivial ?_
                rcases sel_some h with ⟨hb7, h⟩ | ⟨hb7, h⟩
                · iterate 5 refine v_on hT hC rfl rfl rfl rfl hb7 rfl rfl rfl trivial ?_
                  refine v_pick hC rfl rfl rfl (b := true) hb7 rfl rfl rfl trivial ?_
                  refine v_op hT hC rfl rfl rfl rfl trivial ?_
                  rcases sel_some h with ⟨hb8, h⟩ | ⟨hb8, h⟩
                  · iterate 5 refine v_on hT hC rfl rfl rfl rfl hb8 rfl rfl rfl trivial ?_
                    refine v_pick hC rfl rfl rfl (b := true) hb8 rfl rfl rfl trivial ?_
                    refine v_op hT hC rfl rfl rfl rfl trivial ?_
                    rcases sel_some h with ⟨hb9, h⟩ | ⟨hb9, h⟩
                    · refine v_on hT hC rfl rfl rfl rfl hb9 rfl rfl rfl trivial ?_
                      obtain ⟨q12, hq, h⟩ := bnd_some h
                      refine v_call_on hC [] rfl rfl rfl rfl hb9 rfl rfl rfl Try.call24 (impl_QpFor_ac hq) rfl (by decide) trivial rfl (.inl rfl) rfl ?_
                      iterate 3 refine v_on hT hC rfl rfl rfl rfl hb9 rfl rfl rfl trivial ?_
                      refine v_pick hC rfl rfl rfl (b := true) hb9 rfl rfl rfl trivial ?_
                      refine v_op hT hC rfl rfl rfl rfl trivial ?_
                      rcases sel_some h with ⟨hb10, h⟩ | ⟨hb10, h⟩
                      · refine v_on hT hC rfl rfl rfl rfl hb10 rfl rfl rfl trivial ?_
                        obtain ⟨q13, hq, h⟩ := bnd_some h
                        refine v_call_on hC [] rfl rfl rfl rfl hb10 rfl rfl rfl Try.call24 (impl_QpFor_ac hq) rfl (by decide) trivial rfl (.inl rfl) rfl ?_
                        iterate 3 refine v_on hT hC rfl rfl rfl rfl hb10 rfl rfl rfl trivial ?_
                        refine v_pick hC rfl rfl rfl (b := true) hb10 rfl rfl rfl trivial ?_
                        refine v_op hT hC rfl rfl rfl rfl trivial ?_
                        rcases sel_some h with ⟨hb11, h⟩ | ⟨hb11, h⟩
                        · refine v_on hT hC rfl rfl rfl rfl hb11 rfl rfl rfl trivial ?_
                          obtain ⟨q14, hq, h⟩ := bnd_some h
                          refine v_call_on hC [] rfl rfl rfl rfl hb11 rfl rfl rfl Try.call24 (impl_QpFor_ac hq) rfl (by decide) trivial rfl (.inl rfl) rfl ?_
                          iterate 4 refine v_on hT hC rfl rfl rfl rfl hb11 rfl rfl rfl trivial ?_
                          refine v_pick hC rfl rfl rfl (b := true) hb11 rfl rfl rfl trivial ?_
                          refine v_op hT hC rfl rfl rfl rfl trivial ?_
                          refine Vc.nil ⟨by kernel_rfl, ?_⟩
                          injection h with h
                          subst h
                          refine m_norm ?_
                          apply w_conv hC []
                          · repeat' first | exact CO.nil | apply CO.gone | apply CO.row rfl rfl | apply CO.box rfl rfl | decide
                          · rfl
                          · decide
                          · rfl
                        · refine v_off hC rfl rfl rfl rfl hb11 rfl rfl ?_
                          refine v_off hC rfl rfl rfl rfl hb11 rfl rfl ?_
                          refine v_off hC rfl rfl rfl rfl hb11 rfl rfl ?_
                          refine v_off hC rfl rfl rfl rfl hb11 rfl rfl ?_
                          refine v_off hC rfl rfl rfl rfl hb11 rfl rfl ?_
                          refine v_off hC rfl rfl rfl rfl hb11 rfl rfl ?_
                          refine v_pick hC rfl rfl rfl (b := false) hb11 rfl rfl rfl trivial ?_
                          refine v_op hT hC rfl rfl rfl rfl trivial ?_
                          refine Vc.nil ⟨by kernel_rfl, ?_⟩
                          injection h with h
                          subst h
                          refine m_norm ?_
                          apply w_conv hC []
                          · repeat' first | exact CO.nil | apply CO.gone | apply CO.row rfl rfl | apply CO.box rfl rfl | decide
                          · rfl
                          · decide
                          · rfl
                      · refine v_off hC rfl rfl rfl rfl hb10 rfl rfl ?_
                        refine v_off hC rfl rfl rfl rfl hb10 rfl rfl ?_
                        refine v_off hC rfl rfl rfl rfl hb10 rfl rfl ?_
                        refine v_off hC rfl rfl rfl rfl hb10 rfl rfl ?_
                        refine v_off hC rfl rfl rfl rfl hb10 rfl rfl ?_
                        refine v_pick hC rfl rfl rfl (b := false) hb10 rfl rfl rfl trivial ?_
                        refine v_op hT hC rfl rfl rfl rfl trivial ?_
                        refine v_off hC rfl rfl rfl rfl rfl rfl rfl ?_
                        refine v_off hC rfl rfl rfl rfl rfl rfl rfl ?_
                        refine v_off hC rfl rfl rfl rfl rfl rfl rfl ?_
                        refine v_off hC rfl rfl rfl rfl rfl rfl rfl ?_
                        refine v_off hC rfl rfl rfl rfl rfl rfl rfl ?_
                        refine v_off hC rfl rfl rfl rfl rfl rfl rfl ?_
                        iterate 2 refine v_op hT hC rfl rfl rfl rfl trivial ?_
                        refine Vc.nil ⟨by kernel_rfl, ?_⟩
                        injection h with h
                        subst h
                        refine m_norm ?_
                        apply w_conv hC []
                        · repeat' first | exact CO.nil | apply CO.gone | apply CO.row rfl rfl | apply CO.box rfl rfl | decide
                        · rfl
                        · decide
                        · rfl
                    · refine v_off hC rfl rfl rfl rfl hb9 rfl rfl ?_
                      refine v_off hC rfl rfl rfl rfl hb9 rfl rfl ?_
                      refine v_off hC rfl rfl rfl rfl hb9 rfl rfl ?_
                      refine v_off hC rfl rfl rfl rfl hb9 rfl rfl ?_
                      refine v_off hC rfl rfl rfl rfl hb9 rfl rfl ?_
                      refine v_pick hC rfl rfl rfl (b := false) hb9 rfl rfl rfl trivial ?_
                      refine v_op hT hC rfl rfl rfl rfl trivial ?_
                      refine v_off hC rfl rfl rfl rfl rfl rfl rfl ?_
                      refine v_off hC rfl rfl rfl rfl rfl rfl rfl ?_
                      refine v_off hC rfl rfl rfl rfl rfl rfl rfl ?_
                      refine v_off hC rfl rfl rfl rfl rfl rfl rfl ?_
                      refine v_off hC rfl rfl rfl rfl rfl rfl rfl ?_
                      iterate 2 refine v_op hT hC rfl rfl rfl rfl trivial ?_
                      refine v_off hC rfl rfl rfl rfl rfl rfl rfl ?_
                      refine v_off hC rfl rfl rfl rfl rfl rfl rfl ?_
                      refine v_off hC rfl rfl rfl rfl rfl rfl rfl ?_
                      refine v_off hC rfl rfl rfl rfl rfl rfl rfl ?_
                      refine v_off hC rfl rfl rfl rfl rfl rfl rfl ?_
                      refine v_off hC rfl rfl rfl rfl rfl rfl rfl ?_
                      iterate 2 refine v_op hT hC rfl rfl rfl rfl trivial ?_
                      refine Vc.nil ⟨by kernel_rfl, ?_⟩
                      injection h with h
                      subst h
                      refine m_norm ?_
                      apply w_conv hC []
                      · repeat' first | exact CO.nil | apply CO.gone | apply CO.row rfl rfl | apply CO.box rfl rfl | decide
                      · rfl
                      · decide
                      · rfl
                  · refine v_off hC rfl rfl rfl rfl hb8 rfl rfl ?_
                    refine v_off hC rfl rfl rfl rfl hb8 rfl rfl ?_
                    refine v_off hC rfl rfl rfl rfl hb8 rfl rfl ?_
                    refine v_off hC rfl rfl rfl rfl hb8 rfl rfl ?_
                    refine v_off hC rfl rfl rfl rfl hb8 rfl rfl ?_
                    refine v_pick hC rfl rfl rfl (b := false) hb8 rfl rfl rfl trivial ?_
                    refine v_op hT hC rfl rfl rfl rfl trivial ?_
                    refine v_off hC rfl rfl rfl rfl rfl rfl rfl ?_
                    refine v_off hC rfl rfl rfl rfl rfl rfl rfl ?_
                    refine v_off hC rfl rfl rfl rfl rfl rfl rfl ?_
                    refine v_off hC rfl rfl rfl rfl rfl rfl rfl ?_
                    refine v_off hC rfl rfl rfl rfl rfl rfl rfl ?_
                    iterate 2 refine v_op hT hC rfl rfl rfl rfl trivial ?_
                    refine v_off hC rfl rfl rfl rfl rfl rfl rfl ?_
                    refine v_off hC rfl rfl rfl rfl rfl rfl rfl ?_
                    refine v_off hC rfl rfl rfl rfl rfl rfl rfl ?_
                    refine v_off hC rfl rfl rfl rfl rfl rfl rfl ?_
                    refine v_off hC rfl rfl rfl rfl rfl rfl rfl ?_
                    iterate 2 refine v_op hT hC rfl rfl rfl rfl trivial ?_
                    refine v_off hC rfl rfl rfl rfl rfl rfl rfl ?_
                    refine v_off hC rfl rfl rfl rfl rfl rfl rfl ?_
                    refine v_off hC rfl rfl rfl rfl rfl rfl rfl ?_
                    refine v_off hC rfl rfl rfl rfl rfl rfl rfl ?_
                    refine v_off hC rfl rfl rfl rfl rfl rfl rfl ?_
                    refine v_off hC rfl rfl rfl rfl rfl rfl rfl ?_
                    iterate 2 refine v_op hT hC rfl rfl rfl rfl trivial ?_
                    refine Vc.nil ⟨by kernel_rfl, ?_⟩
                    injection h with h
                    subst h
                    refine m_norm ?_
                    apply w_conv hC []
                    · repeat' first | exact CO.nil | apply CO.gone | apply CO.row rfl rfl | apply CO.box rfl rfl | decide
                    · rfl
                    · decide
                    · rfl
                · refine v_off hC rfl rfl rfl rfl hb7 rfl rfl ?_
                  refine v_off hC rfl rfl rfl rfl hb7 rfl rfl ?_
                  refine v_off hC rfl rfl rfl rfl hb7 rfl rfl ?_
                  refine v_off hC rfl rfl rfl rfl hb7 rfl rfl ?_
                  refine v_off hC rfl rfl rfl rfl hb7 rfl rfl ?_
                  refine v_pick hC rfl rfl rfl (b := false) hb7 rfl rfl rfl trivial ?_
                  refine v_op hT hC rfl rfl rfl rfl trivial ?_
                  refine v_off hC rfl rfl rfl rfl rfl rfl rfl ?_
                  refine v_off hC rfl rfl rfl rfl rfl rfl rfl ?_
                  refine v_off hC rfl rfl rfl rfl rfl rfl rfl ?_
                  refine v_off hC rfl rfl rfl rfl rfl rfl rfl ?_
                  refine v_off hC rfl rfl rfl rfl rfl rfl rfl ?_
                  iterate 2 refine v_op hT hC rfl rfl rfl rfl trivial ?_
                  refine v_off hC rfl rfl rfl rfl rfl rfl rfl ?_
                  refine v_off hC rfl rfl rfl rfl rfl rfl rfl ?_
                  refine v_off hC rfl rfl rfl rfl rfl rfl rfl ?_
                  refine v_off hC rfl rfl rfl rfl rfl rfl rfl ?_
                  refine v_off hC rfl rfl rfl rfl rfl rfl rfl ?_
                  iterate 2 refine v_op hT hC rfl rfl rfl rfl trivial ?_
                  refine v_off hC rfl rfl rfl rfl rfl rfl rfl ?_
                  refine v_off hC rfl rfl rfl rfl rfl rfl rfl ?_
                  refine v_off hC rfl rfl rfl rfl rfl rfl rfl ?_
                  refine v_off hC rfl rfl rfl rfl rfl rfl rfl ?_
                  refine v_off hC rfl rfl rfl rfl rfl rfl rfl ?_
                  iterate 2 refine v_op hT hC rfl rfl rfl rfl trivial ?_
                  refine v_off hC rfl rfl rfl rfl rfl rfl rfl ?_
                  refine v_off hC rfl rfl rfl rfl rfl rfl rfl ?_
                  refine v_off hC rfl rfl rfl rfl rfl rfl rfl ?_
                  refine v_off hC rfl rfl rfl rfl rfl rfl rfl ?_
                  refine v_off hC rfl rfl rfl rfl rfl rfl rfl ?_
                  refine v_off hC rfl rfl rfl rfl rfl rfl rfl ?_
                  iterate 2 refine v_op hT hC rfl rfl rfl rfl trivial ?_
                  refine Vc.nil ⟨by kernel_rfl, ?_⟩
                  injection h with h
                  subst h
                  refine m_norm ?_
                  apply w_conv hC []
                  · repeat' first | exact CO.nil | apply CO.gone | apply CO.row rfl rfl | apply CO.box rfl rfl | decide
                  · rfl
                  · decide
                  · rfl
              · refine v_off hC rfl rfl rfl rfl hb6 rfl rfl ?_
                refine v_off hC rfl rfl rfl rfl hb6 rfl rfl ?_
                refine v_pick hC rfl rfl rfl (b := false) hb6 rfl rfl rfl trivial ?_
                refine v_op hT hC rfl rfl rfl rfl trivial ?_
                refine v_off hC rfl rfl rfl rfl rfl rfl rfl ?_
                refine v_off hC rfl rfl rfl rfl rfl rfl rfl ?_
                refine v_off hC rfl rfl rfl rfl rfl rfl rfl ?_
                refine v_off hC rfl rfl rfl rfl rfl rfl rfl ?_
                refine v_off hC rfl rfl rfl rfl rfl rfl rfl ?_
                iterate 2 refine v_op hT hC rfl rfl rfl rfl trivial ?_
                refine v_off hC rfl rfl rfl rfl rfl rfl rfl ?_
                refine v_off hC rfl rfl rfl rfl rfl rfl rfl ?_
                refine v_off hC rfl rfl rfl rfl rfl rfl rfl ?_
                refine v_off hC rfl rfl rfl rfl rfl rfl rfl ?_
                refine v_off hC rfl rfl rfl rfl rfl rfl rfl ?_
                iterate 2 refine v_op hT hC rfl rfl rfl rfl trivial ?_
                refine v_off hC rfl rfl rfl rfl rfl rfl rfl ?_
                refine v_off hC rfl rfl rfl rfl rfl rfl rfl ?_
                refine v_off hC rfl rfl rfl rfl rfl rfl rfl ?_
                refine v_off hC rfl rfl rfl rfl rfl rfl rfl ?_
                refine v_off hC rfl rfl rfl rfl rfl rfl rfl ?_
                iterate 2 refine v_op hT hC rfl rfl rfl rfl trivial ?_
                refine v_off hC rfl rfl rfl rfl rfl rfl rfl ?_
                refine v_off hC rfl rfl rfl rfl rfl rfl rfl ?_
                refine v_off hC rfl rfl rfl rfl rfl rfl rfl ?_
                refine v_off hC rfl rfl rfl rfl rfl rfl rfl ?_
                refine v_off hC rfl rfl rfl rfl rfl rfl rfl ?_
                iterate 2 refine v_op hT hC rfl rfl rfl rfl trivial ?_
                refine v_off hC rfl rfl rfl rfl rfl rfl rfl ?_
                refine v_off hC rfl rfl rfl rfl rfl rfl rfl ?_
                refine v_off hC rfl rfl rfl rfl rfl rfl rfl ?_
                refine v_off hC rfl rfl rfl rfl rfl rfl rfl ?_
                refine v_off hC rfl rfl rfl rfl rfl rfl rfl ?_
                refine v_off hC rfl rfl rfl rfl rfl rfl rfl ?_
                iterate 2 refine v_op hT hC rfl rfl rfl rfl trivial ?_
                refine Vc.nil ⟨by kernel_rfl, ?_⟩
                injection h with h
                subst h
                refine m_norm ?_
                apply w_conv hC []
                · repeat' first | exact CO.nil | apply CO.gone | apply CO.row rfl rfl | apply CO.box rfl rfl | decide
                · rfl
                · decide
                · rfl
            · refine v_off hC rfl rfl rfl rfl hb5 rfl rfl ?_
              refine v_off hC rfl rfl rfl rfl hb5 rfl rfl ?_
              refine v_pick hC rfl rfl rfl (b := false) hb5 rfl rfl rfl trivial ?_
              refine v_op hT hC rfl rfl rfl rfl trivial ?_
              refine v_off hC rfl rfl rfl rfl rfl rfl rfl ?_
              refine v_off hC rfl rfl rfl rfl rfl rfl rfl ?_
              iterate 2 refine v_op hT hC rfl rfl rfl rfl trivial ?_
              refine v_off hC rfl rfl rfl rfl rfl rfl rfl ?_
              refine v_off hC rfl rfl rfl rfl rfl rfl rfl ?_
              refine v_off hC rfl rfl rfl rfl rfl rfl rfl ?_
              refine v_off hC rfl rfl rfl rfl rfl rfl rfl ?_
              refine v_off hC rfl rfl rfl rfl rfl rfl rfl ?_
              iterate 2 refine v_op hT hC rfl rfl rfl rfl trivial ?_
              refine v_off hC rfl rfl rfl rfl rfl rfl rfl ?_
              refine v_off hC rfl rfl rfl rfl rfl rfl rfl ?_
              refine v_off hC rfl rfl rfl rfl rfl rfl rfl ?_
              refine v_off hC rfl rfl rfl rfl rfl rfl rfl ?_
              refine v_off hC rfl rfl rfl rfl rfl rfl rfl ?_
              iterate 2 refine v_op hT hC rfl rfl rfl rfl trivial ?_
              refine v_off hC rfl rfl rfl rfl rfl rfl rfl ?_
              refine v_off hC rfl rfl rfl rfl rfl rfl rfl ?_
              refine v_off hC rfl rfl rfl rfl rfl rfl rfl ?_
              refine v_off hC rfl rfl rfl rfl rfl rfl rfl ?_
              refine v_off hC rfl rfl rfl rfl rfl rfl rfl ?_
              iterate 2 refine v_op hT hC rfl rfl rfl rfl trivial ?_
              refine v_off hC rfl rfl rfl rfl rfl rfl rfl ?_
              refine v_off hC rfl rfl rfl rfl rfl rfl rfl ?_
              refine v_off hC rfl rfl rfl rfl rfl rfl rfl ?_
              refine v_off hC rfl rfl rfl rfl rfl rfl rfl ?_
              refine v_off hC rfl rfl rfl rfl rfl rfl rfl ?_
              iterate 2 refine v_op hT hC rfl rfl rfl rfl trivial ?_
              refine v_off hC rfl rfl rfl rfl rfl rfl rfl ?_
              refine v_off hC rfl rfl rfl rfl rfl rfl rfl ?_
              refine v_off hC rfl rfl rfl rfl rfl rfl rfl ?_
              refine v_off hC rfl rfl rfl rfl rfl rfl rfl ?_
              refine v_off hC rfl rfl rfl rfl rfl rfl rfl ?_
              refine v_off hC rfl rfl rfl rfl rfl rfl rfl ?_
              iterate 2 refine v_op hT hC rfl rfl rfl rfl trivial ?_
              refine Vc.nil ⟨by kernel_rfl, ?_⟩
              injection h with h
              subst h
              refine m_norm ?_
              apply w_conv hC []
              · repeat' first | exact CO.nil | apply CO.gone | apply CO.row rfl rfl | apply CO.box rfl rfl | decide
              · rfl
              · decide
              · rfl
          · refine v_off hC rfl rfl rfl rfl hb4 rfl rfl ?_
            refine v_off hC rfl rfl rfl rfl hb4 rfl rfl ?_
            refine v_off hC rfl rfl rfl rfl hb4 rfl rfl ?_
            refine v_off hC rfl rfl rfl rfl hb4 rfl rfl ?_
            refine v_off hC rfl rfl rfl rfl hb4 rfl rfl ?_
            refine v_pick hC rfl rfl rfl (b := false) hb4 rfl rfl rfl trivial ?_
            refine v_op hT hC rfl rfl rfl rfl trivial ?_
            refine v_off hC rfl rfl rfl rfl rfl rfl rfl ?_
            refine v_off hC rfl rfl rfl rfl rfl rfl rfl ?_
            iterate 2 refine v_op hT hC rfl rfl rfl rfl trivial ?_
            refine v_off hC rfl rfl rfl rfl rfl rfl rfl ?_
            refine v_off hC rfl rfl rfl rfl rfl rfl rfl ?_
            iterate 2 refine v_op hT hC rfl rfl rfl rfl trivial ?_
            refine v_off hC rfl rfl rfl rfl rfl rfl rfl ?_
            refine v_off hC rfl rfl rfl rfl rfl rfl rfl ?_
            refine v_off hC rfl rfl rfl rfl rfl rfl rfl ?_
            refine v_off hC rfl rfl rfl rfl rfl rfl rfl ?_
            refine v_off hC rfl rfl rfl rfl rfl rfl rfl ?_
            iterate 2 refine v_op hT hC rfl rfl rfl rfl trivial ?_
            refine v_off hC rfl rfl rfl rfl rfl rfl rfl ?_
            refine v_off hC rfl rfl rfl rfl rfl rfl rfl ?_
            refine v_off hC rfl rfl rfl rfl rfl rfl rfl ?_
            refine v_off hC rfl rfl rfl rfl rfl rfl rfl ?_
            refine v_off hC rfl rfl rfl rfl rfl rfl rfl ?_
            iterate 2 refine v_op hT hC rfl rfl rfl rfl trivial ?_
            refine v_off hC rfl rfl rfl rfl rfl rfl rfl ?_
            refine v_off hC rfl rfl rfl rfl rfl rfl rfl ?_
            refine v_off hC rfl rfl rfl rfl rfl rfl rfl ?_
            refine v_off hC rfl rfl rfl rfl rfl rfl rfl ?_
            refine v_off hC rfl rfl rfl rfl rfl rfl rfl ?_
            iterate 2 refine v_op hT hC rfl rfl rfl rfl trivial ?_
            refine v_off hC rfl rfl rfl rfl rfl rfl rfl ?_
            refine v_off hC rfl rfl rfl rfl rfl rfl rfl ?_
            refine v_off hC rfl rfl rfl rfl rfl rfl rfl ?_
            refine v_off hC rfl rfl rfl rfl rfl rfl rfl ?_
            refine v_off hC rfl rfl rfl rfl rfl rfl rfl ?_
            iterate 2 refine v_op hT hC rfl rfl rfl rfl trivial ?_
            refine v_off hC rfl rfl rfl rfl rfl rfl rfl ?_
            refine v_off hC rfl rfl rfl rfl rfl rfl rfl ?_
            refine v_off hC rfl rfl rfl rfl rfl rfl rfl ?_
            refine v_off hC rfl rfl rfl rfl rfl rfl rfl ?_
            refine v_off hC rfl rfl rfl rfl rfl rfl rfl ?_
            refine v_off hC rfl rfl rfl rfl rfl rfl rfl ?_
            iterate 2 refine v_op hT hC rfl rfl rfl rfl trivial ?_
            refine Vc.nil ⟨by kernel_rfl, ?_⟩
            injection h with h
            subst h
            refine m_norm ?_
            apply w_conv hC []
            · repeat' first | exact CO.nil | apply CO.gone | apply CO.row rfl rfl | apply CO.box rfl rfl | decide
            · rfl
            · decide
            · rfl
        · refine v_off hC rfl rfl rfl rfl hb3 rfl rfl ?_
          refine v_off hC rfl rfl rfl rfl hb3 rfl rfl ?_
          refine v_off hC rfl rfl rfl rfl hb3 rfl rfl ?_
          refine v_pick hC rfl rfl rfl (b := false) hb3 rfl rfl rfl trivial ?_
          refine v_op hT hC rfl rfl rfl rfl trivial ?_
          refine v_off hC rfl rfl rfl rfl rfl rfl rfl ?_
          refine v_off hC rfl rfl rfl rfl rfl rfl rfl ?_
          refine v_off hC rfl rfl rfl rfl rfl rfl rfl ?_
          refine v_off hC rfl rfl rfl rfl rfl rfl rfl ?_
          refine v_off hC rfl rfl rfl rfl rfl rfl rfl ?_
          iterate 2 refine v_op hT hC rfl rfl rfl rfl trivial ?_
          refine v_off hC rfl rfl rfl rfl rfl rfl rfl ?_
          refine v_off hC rfl rfl rfl rfl rfl rfl rfl ?_
          iterate 2 refine v_op hT hC rfl rfl rfl rfl trivial ?_
          refine v_off hC rfl rfl rfl rfl rfl rfl rfl ?_
          refine v_off hC rfl rfl rfl rfl rfl rfl rfl ?_
          iterate 2 refine v_op hT hC rfl rfl rfl rfl trivial ?_
          refine v_off hC rfl rfl rfl rfl rfl rfl rfl ?_
          refine v_off hC rfl rfl rfl rfl rfl rfl rfl ?_
          refine v_off hC rfl rfl rfl rfl rfl rfl rfl ?_
          refine v_off hC rfl rfl rfl rfl rfl rfl rfl ?_
          refine v_off hC rfl rfl rfl rfl rfl rfl rfl ?_
          iterate 2 refine v_op hT hC rfl rfl rfl rfl trivial ?_
          refine v_off hC rfl rfl rfl rfl rfl rfl rfl ?_
          refine v_off hC rfl rfl rfl rfl rfl rfl rfl ?_
          refine v_off hC rfl rfl rfl rfl rfl rfl rfl ?_
          refine v_off hC rfl rfl rfl rfl rfl rfl rfl ?_
          refine v_off hC rfl rfl rfl rfl rfl rfl rfl ?_
          iterate 2 refine v_op hT hC rfl rfl rfl rfl trivial ?_
          refine v_off hC rfl rfl rfl rfl rfl rfl rfl ?_
          refine v_off hC rfl rfl rfl rfl rfl rfl rfl ?_
          refine v_off hC rfl rfl rfl rfl rfl rfl rfl ?_
          refine v_off hC rfl rfl rfl rfl rfl rfl rfl ?_
          refine v_off hC rfl rfl rfl rfl rfl rfl rfl ?_
          iterate 2 refine v_op hT hC rfl rfl rfl rfl trivial ?_
          refine v_off hC rfl rfl rfl rfl rfl rfl rfl ?_
          refine v_off hC rfl rfl rfl rfl rfl rfl rfl ?_
          refine v_off hC rfl rfl rfl rfl rfl rfl rfl ?_
          refine v_off hC rfl rfl rfl rfl rfl rfl rfl ?_
          refine v_off hC rfl rfl rfl rfl rfl rfl rfl ?_
          iterate 2 refine v_op hT hC rfl rfl rfl rfl trivial ?_
          refine v_off hC rfl rfl rfl rfl rfl rfl rfl ?_
          refine v_off hC rfl rfl rfl rfl rfl rfl rfl ?_
          refine v_off hC rfl rfl rfl rfl rfl rfl rfl ?_
          refine v_off hC rfl rfl rfl rfl rfl rfl rfl ?_
          refine v_off hC rfl rfl rfl rfl rfl rfl rfl ?_
          refine v_off hC rfl rfl rfl rfl rfl rfl rfl ?_
          iterate 2 refine v_op hT hC rfl rfl rfl rfl trivial ?_
          refine Vc.nil ⟨by kernel_rfl, ?_⟩
          injection h with h
          subst h
          refine m_norm ?_
          apply w_conv hC []
          · repeat' first | exact CO.nil | apply CO.gone | apply CO.row rfl rfl | apply CO.box rfl rfl | decide
          · rfl
          · decide
          · rfl
      · refine v_off hC rfl rfl rfl rfl hb2 rfl rfl ?_
        refine v_off hC rfl rfl rfl rfl hb2 rfl rfl ?_
        refine v_pick hC rfl rfl rfl (b := false) hb2 rfl rfl rfl trivial ?_
        refine v_op hT hC rfl rfl rfl rfl trivial ?_
        refine v_off hC rfl rfl rfl rfl rfl rfl rfl ?_
        refine v_off hC rfl rfl rfl rfl rfl rfl rfl ?_
        refine v_off hC rfl rfl rfl rfl rfl rfl rfl ?_
        iterate 2 refine v_op hT hC rfl rfl rfl rfl trivial ?_
        refine v_off hC rfl rfl rfl rfl rfl rfl rfl ?_
        refine v_off hC rfl rfl rfl rfl rfl rfl rfl ?_
        refine v_off hC rfl rfl rfl rfl rfl rfl rfl ?_
        refine v_off hC rfl rfl rfl rfl rfl rfl rfl ?_
        refine v_off hC rfl rfl rfl rfl rfl rfl rfl ?_
        iterate 2 refine v_op hT hC rfl rfl rfl rfl trivial ?_
        refine v_off hC rfl rfl rfl rfl rfl rfl rfl ?_
        refine v_off hC rfl rfl rfl rfl rfl rfl rfl ?_
        iterate 2 refine v_op hT hC rfl rfl rfl rfl trivial ?_
        refine v_off hC rfl rfl rfl rfl rfl rfl rfl ?_
        refine v_off hC rfl rfl rfl rfl rfl rfl rfl ?_
        iterate 2 refine v_op hT hC rfl rfl rfl rfl trivial ?_
        refine v_off hC rfl rfl rfl rfl rfl rfl rfl ?_
        refine v_off hC rfl rfl rfl rfl rfl rfl rfl ?_
        refine v_off hC rfl rfl rfl rfl rfl rfl rfl ?_
        refine v_off hC rfl rfl rfl rfl rfl rfl rfl ?_
        refine v_off hC rfl rfl rfl rfl rfl rfl rfl ?_
        iterate 2 refine v_op hT hC rfl rfl rfl rfl trivial ?_
        refine v_off hC rfl rfl rfl rfl rfl rfl rfl ?_
        refine v_off hC rfl rfl rfl rfl rfl rfl rfl ?_
        refine v_off hC rfl rfl rfl rfl rfl rfl rfl ?_
        refine v_off hC rfl rfl rfl rfl rfl rfl rfl ?_
        refine v_off hC rfl rfl rfl rfl rfl rfl rfl ?_
        iterate 2 refine v_op hT hC rfl rfl rfl rfl trivial ?_
        refine v_off hC rfl rfl rfl rfl rfl rfl rfl ?_
        refine v_off hC rfl rfl rfl rfl rfl rfl rfl ?_
        refine v_off hC rfl rfl rfl rfl rfl rfl rfl ?_
        refine v_off hC rfl rfl rfl rfl rfl rfl rfl ?_
        refine v_off hC rfl rfl rfl rfl rfl rfl rfl ?_
        iterate 2 refine v_op hT hC rfl rfl rfl rfl trivial ?_
        refine v_off hC rfl rfl rfl rfl rfl rfl rfl ?_
        refine v_off hC rfl rfl rfl rfl rfl rfl rfl ?_
        refine v_off hC rfl rfl rfl rfl rfl rfl rfl ?_
        refine v_off hC rfl rfl rfl rfl rfl rfl rfl ?_
        refine v_off hC rfl rfl rfl rfl rfl rfl rfl ?_
        iterate 2 refine v_op hT hC rfl rfl rfl rfl trivial ?_
        refine v_off hC rfl rfl rfl rfl rfl rfl rfl ?_
        refine v_off hC rfl rfl rfl rfl rfl rfl rfl ?_
        refine v_off hC rfl rfl rfl rfl rfl rfl rfl ?_
        refine v_off hC rfl rfl rfl rfl rfl rfl rfl ?_
        refine v_off hC rfl rfl rfl rfl rfl rfl rfl ?_
        refine v_off hC rfl rfl rfl rfl rfl rfl rfl ?_
        iterate 2 refine v_op hT hC rfl rfl rfl rfl trivial ?_
        refine Vc.nil ⟨by kernel_rfl, ?_⟩
        injection h with h
        subst h
        refine m_norm ?_
        apply w_conv hC []
        · repeat' first | exact CO.nil | apply CO.gone | apply CO.row rfl rfl | apply CO.box rfl rfl | decide
        · rfl
        · decide
        · rfl
    refine aw_ret ?_
    injection h with h
    subst h
    exact ends (Weak.refl _) rfl trivial
end
end Go.Proofs.Ytplmeeookgefnaa.A
