/- Contracts of the functions that the law FnExactSourceSets reaches, part 1: each comes to what its pure function tells. Written by a program of this session. Conditions: as each statement tells. -/
import Derived.Test.YtplmeeookgefnaaFFnExactSourceSetsx0
namespace Go.Proofs.Ytplmeeookgefnaa.A
open Go Go.Proofs Go.Proofs.YtplmeeookgefnaaAL Go.RowKit
set_option linter.unusedVariables false
set_option linter.unusedSimpArgs false
set_option maxRecDepth 100000
set_option maxHeartbeats 2000000
noncomputable section
def spec_l02Bytes_res (r : ByteArray) : AV := .sv (.str r)
def spec_l02Bytes_obs (r : ByteArray) : Objs := []
theorem spec_l02Bytes_ac {p0 : ByteArray} {r : ByteArray} (h : spec_l02Bytes p0 = some r) : AC Try.prog 220 [.sv (.str p0)] [] (spec_l02Bytes_res r) (spec_l02Bytes_obs r) := by
  refine ac_of_body hT Try.func220 rfl fun C hC => ?_
  unfold spec_l02Bytes at h
  refine s_reg ?_
  refine v_op hT hC rfl rfl rfl rfl trivial ?_
  refine Vc.nil ?_
  refine s_reg ?_
  refine v_op hT hC rfl rfl rfl rfl trivial ?_
  obtain ⟨hq, h⟩ := req_some h
  refine v_op hT hC rfl rfl rfl rfl hq ?_
  refine v_op hT hC rfl rfl rfl rfl trivial ?_
  obtain ⟨hq, h⟩ := req_some h
  refine v_op hT hC rfl rfl rfl rfl ⟨trivial, hq⟩ ?_
  refine v_op hT hC rfl rfl rfl rfl trivial ?_
  refine Vc.nil ?_
  refine s_in ?_
  refine live [3] [176] (s' := [_]) (o' := [_]) rfl rfl ?_
  obtain ⟨v4, hl, h⟩ := bnd_some h
  refine s_loop (fun v2 => ([], [(176, some (.ints .u8 v2))])) (fun v4 => ([], [(176, some (.ints .u8 v4))])) hl ?_ ?_ ?_
  · apply w_conv hC []
    · repeat' first | exact CO.nil | apply CO.gone | apply CO.row rfl rfl | apply CO.box rfl rfl | decide
    · rfl
    · decide
    · rfl
  · intro v2 s hs
    have h := hs
    unfold spec_l02Bytes_l2 at h
    refine s_in ?_
    refine s_reg ?_
    iterate 2 refine v_op hT hC rfl rfl rfl rfl trivial ?_
    obtain ⟨hq, h⟩ := req_some h
    refine v_op hT hC rfl rfl rfl rfl hq ?_
    refine v_op hT hC rfl rfl rfl rfl trivial ?_
    refine Vc.nil ?_
    rcases sel_some h with ⟨hb3, h⟩ | ⟨hb3, h⟩
    · refine s_true rfl hb3 ?_
      refine aw_skip ?_
      refine t_norm ?_
      refine s_block ?_
      refine aw_region ?_
      iterate 2 refine v_op hT hC rfl rfl rfl rfl trivial ?_
      obtain ⟨hq, h⟩ := req_some h
      refine v_op hT hC rfl rfl rfl rfl ⟨trivial, hq⟩ ?_
      refine v_op hT hC rfl rfl rfl rfl trivial ?_
      refine Vc.nil ?_
      refine b_norm ?_
      injection h with h
      subst h
      refine r_go ?_
      apply w_conv hC [(176, 288)]
      · repeat' first | exact CO.nil | apply CO.gone | apply CO.row rfl rfl | apply CO.box rfl rfl | decide
      · rfl
      · decide
      · rfl
    · refine s_false rfl hb3 ?_
      refine aw_exit ?_
      refine t_exit ?_
      injection h with h
      subst h
      refine r_exit ?_
      refine o_out ?_
      apply w_conv hC []
      · repeat' first | exact CO.nil | apply CO.gone | apply CO.row rfl rfl | apply CO.box rfl rfl | decide
      · rfl
      · decide
      · rfl
  refine t_norm ?_
  refine s_reg ?_
  iterate 2 refine v_op hT hC rfl rfl rfl rfl trivial ?_
  refine Vc.nil ?_
  refine s_in ?_
  refine s_reg ?_
  refine v_op hT hC rfl rfl rfl rfl trivial ?_
  refine Vc.nil ?_
  refine live [3, 4, 5] [176, 304] (s' := [_, _, _]) (o' := [_, _]) rfl rfl ?_
  obtain ⟨v19, hl, h⟩ := bnd_some h
  refine s_loop (fun v12 => ([(5, .sv (.int .i64 v12.1))], [(304, some (.ints .u8 v12.2))])) (fun v19 => ([(3, .any), (5, .any)], [(304, some (.ints .u8 v19)), (176, none)])) hl ?_ ?_ ?_
  · try dsimp only
    apply w_conv hC []
    · repeat' first | exact CO.nil | apply CO.gone | apply CO.row rfl rfl | apply CO.box rfl rfl | decide
    · rfl
    · decide
    · rfl
  · intro v12 s hs
    have h := hs
    unfold spec_l02Bytes_l24 at h
    refine s_in ?_
    refine s_reg ?_
    iterate 4 refine v_op hT hC rfl rfl rfl rfl trivial ?_
    refine Vc.nil ?_
    rcases sel_some h with ⟨hb12, h⟩ | ⟨hb12, h⟩
    · refine s_true rfl hb12 ?_
      refine aw_skip ?_
      refine t_norm ?_
      refine s_in ?_
      refine s_block ?_
      refine s_reg ?_
      refine v_op hT hC rfl rfl rfl rfl trivial ?_
      refine Vc.nil ?_
      refine s_in ?_
      refine s_reg ?_
      refine v_op hT hC rfl rfl rfl rfl trivial ?_
      refine Vc.nil ?_
      refine live [3, 4, 5, 6, 7] [176, 304] (s' := [_, _, _, _, _]) (o' := [_, _]) rfl rfl ?_
      obtain ⟨v23, hl, h⟩ := bnd_some h
      refine s_loop (fun v21 => ([(6, .sv (.int .i64 v21.1)), (7, .sv (.int .i64 v21.2))], [])) (fun v23 => ([(6, .sv (.int .i64 v23)), (7, .any)], [])) hl ?_ ?_ ?_
      · try dsimp only
        apply w_conv hC []
        · repeat' first | exact CO.nil | apply CO.gone | apply CO.row rfl rfl | apply CO.box rfl rfl | decide
        · rfl
        · decide
        · rfl
      · intro v21 s hs
        have h := hs
        unfold spec_l02Bytes_l28 at h
        refine s_in ?_
        refine s_reg ?_
        iterate 2 refine v_op hT hC rfl rfl rfl rfl trivial ?_
        refine Vc.nil ?_
        rcases sel_some h with ⟨hb15, h⟩ | ⟨hb15, h⟩
        · refine s_true rfl hb15 ?_
          refine aw_skip ?_
          refine t_norm ?_
          refine s_in ?_
          refine s_block ?_
          refine aw_region ?_
          iterate 6 refine v_op hT hC rfl rfl rfl rfl trivial ?_
          obtain ⟨hq, h⟩ := req_some h
          refine v_op hT hC rfl rfl rfl rfl hq ?_
          obtain ⟨hq, h⟩ := req_some h
          refine v_op hT hC rfl rfl rfl rfl hq ?_
          iterate 4 refine v_op hT hC rfl rfl rfl rfl trivial ?_
          refine Vc.nil ?_
          refine b_norm ?_
          refine t_norm ?_
          refine aw_region ?_
          iterate 3 refine v_op hT hC rfl rfl rfl rfl trivial ?_
          refine Vc.nil ?_
          injection h with h
          subst h
          refine r_go ?_
          try dsimp only
          apply w_conv hC []
          · repeat' first | exact CO.nil | apply CO.gone | apply CO.row rfl rfl | apply CO.box rfl rfl | decide
          · rfl
          · decide
          · rfl
        · refine s_false rfl hb15 ?_
          refine aw_exit ?_
          refine t_exit ?_
          injection h with h
          subst h
          refine r_exit ?_
          refine o_out ?_
          apply w_conv hC []
          · repeat' first | exact CO.nil | apply CO.gone | apply CO.row rfl rfl | apply CO.box rfl rfl | decide
          · rfl
          · decide
          · rfl
      refine t_norm ?_
      refine aw_region ?_
      iterate 4 refine v_op hT hC rfl rfl rfl rfl trivial ?_
      obtain ⟨hq, h⟩ := req_some h
      refine v_op hT hC rfl rfl rfl rfl ⟨trivial, hq⟩ ?_
      refine v_op hT hC rfl rfl rfl rfl trivial ?_
      refine Vc.nil ?_
      refine b_norm ?_
      refine t_norm ?_
      refine aw_region ?_
      iterate 3 refine v_op hT hC rfl rfl rfl rfl trivial ?_
      refine Vc.nil ?_
      injection h with h
      subst h
      refine r_go ?_
      try dsimp only
      apply w_conv hC [(304, 720)]
      · repeat' first | exact CO.nil | apply CO.gone | apply CO.row rfl rfl | apply CO.box rfl rfl | decide
      · rfl
      · decide
      · rfl
    · refine s_false rfl hb12 ?_
      refine aw_exit ?_
      refine t_exit ?_
      injection h with h
      subst h
      refine r_exit ?_
      refine o_out ?_
      apply w_conv hC []
      · repeat' first | exact CO.nil | apply CO.gone | apply CO.row rfl rfl | apply CO.box rfl rfl | decide
      · rfl
      · decide
      · rfl
  refine t_norm ?_
  refine s_reg ?_
  iterate 3 refine v_op hT hC rfl rfl rfl rfl trivial ?_
  refine Vc.nil ?_
  refine aw_ret ?_
  injection h with h
  subst h
  exact ends (Weak.refl _) rfl trivial
def spec_UnitOf_res (r : (ByteArray × Bool)) : AV := .tup [.sv (.str r.1), .sv (.bool r.2)]
def spec_UnitOf_obs (r : (ByteArray × Bool)) : Objs := []
theorem spec_UnitOf_ac {p0 : Int} {p1 : ByteArray} {r : (ByteArray × Bool)} (h : spec_UnitOf p0 p1 = some r) : AC Try.prog 152 [.sv (.int .i64 p0), .sv (.str p1)] [] (spec_UnitOf_res r) (spec_UnitOf_obs r) := by
  refine ac_of_body hT Try.func152 rfl fun C hC => ?_
  unfold spec_UnitOf at h
  refine s_reg ?_
  iterate 2 refine v_op hT hC rfl rfl rfl rfl trivial ?_
  refine Vc.nil ?_
  refine s_in ?_
  refine live [0, 1] [] (s' := [_, _]) (o' := []) rfl rfl ?_
  obtain ⟨v1, h1, h⟩ := bnd_some h
  refine aw_to ([(13, .sv (.bool v1))], []) ?_ ?_
  · have h := h1
    refine aw_region ?_
    refine v_op hT hC rfl rfl rfl rfl trivial ?_
    obtain ⟨q2, hq, h⟩ := bnd_some h
    refine v_call hC [] rfl rfl rfl rfl Try.call218 (spec_l07Kind_ac hq) rfl (by decide) trivial rfl (.inl rfl) rfl ?_
    iterate 2 refine v_op hT hC rfl rfl rfl rfl trivial ?_
    rcases sel_some h with ⟨hb1, h⟩ | ⟨hb1, h⟩
    · refine v_on hT hC rfl rfl rfl rfl (congrArg Bool.not hb1) rfl rfl rfl trivial ?_
      obtain ⟨q3, hq, h⟩ := bnd_some h
      refine v_call_on hC [] rfl rfl rfl rfl (congrArg Bool.not hb1) rfl rfl rfl Try.call219 (spec_RowOk_ac hq) rfl (by decide) trivial rfl (.inl rfl) rfl ?_
      refine v_on hT hC rfl rfl rfl rfl (congrArg Bool.not hb1) rfl rfl rfl trivial ?_
      refine v_pick hC rfl rfl rfl (b := false) (congrArg Bool.not hb1) rfl rfl rfl trivial ?_
      refine Vc.nil ?_
      injection h with h
      subst h
      refine m_norm ?_
      apply w_conv hC []
      · repeat' first | exact CO.nil | apply CO.gone | apply CO.row rfl rfl | apply CO.box rfl rfl | decide
      · rfl
      · decide
      · rfl
    · refine v_off hC rfl rfl rfl rfl (congrArg Bool.not hb1) rfl rfl ?_
      refine v_off hC rfl rfl rfl rfl (congrArg Bool.not hb1) rfl rfl ?_
      refine v_off hC rfl rfl rfl rfl (congrArg Bool.not hb1) rfl rfl ?_
      refine v_pick hC rfl rfl rfl (b := true) (congrArg Bool.not hb1) rfl rfl rfl trivial ?_
      refine Vc.nil ?_
      injection h with h
      subst h
      refine m_norm ?_
      apply w_conv hC []
      · repeat' first | exact CO.nil | apply CO.gone | apply CO.row rfl rfl | apply CO.box rfl rfl | decide
      · rfl
      · decide
      · rfl
  rcases sel_some h with ⟨hb2, h⟩ | ⟨hb2, h⟩
  · refine s_true rfl hb2 ?_
    refine s_reg ?_
    iterate 2 refine v_op hT hC rfl rfl rfl rfl trivial ?_
    refine Vc.nil ?_
    refine aw_ret ?_
    refine t_ret ?_
    injection h with h
    subst h
    exact ends (Weak.refl _) rfl trivial
  · refine s_false rfl hb2 ?_
    refine aw_skip ?_
    refine t_norm ?_
    refine s_draw hm ?_
    iterate 5 refine v_op hT hC rfl rfl rfl rfl trivial ?_
    obtain ⟨q4, hq, h⟩ := bnd_some h
    refine v_call hC [] rfl rfl rfl rfl Try.call220 (spec_l02Bytes_ac hq) rfl (by decide) trivial rfl (.inl rfl) rfl ?_
    obtain ⟨hq, h⟩ := req_some h
    refine v_op hT hC rfl rfl rfl rfl hq ?_
    iterate 2 refine v_op hT hC rfl rfl rfl rfl trivial ?_
    refine Vc.nil ⟨by kernel_rfl, ?_⟩
    refine aw_ret ?_
    injection h with h
    subst h
    exact ends (Weak.refl _) rfl trivial
def spec_l05Flag_res (r : ByteArray) : AV := .sv (.str r)
def spec_l05Flag_obs (r : ByteArray) : Objs := []
theorem spec_l05Flag_ac {p0 : Bool} {r : ByteArray} (h : spec_l05Flag p0 = some r) : AC Try.prog 224 [.sv (.bool p0)] [] (spec_l05Flag_res r) (spec_l05Flag_obs r) := by
  refine ac_of_body hT Try.func224 rfl fun C hC => ?_
  unfold spec_l05Flag at h
  refine s_reg ?_
  refine v_op hT hC rfl rfl rfl rfl trivial ?_
  refine Vc.nil ?_
  refine s_in ?_
  refine s_reg ?_
  refine v_op hT hC rfl rfl rfl rfl trivial ?_
  refine Vc.nil ?_
  rcases sel_some h with ⟨hb1, h⟩ | ⟨hb1, h⟩
  · refine s_true rfl hb1 ?_
    refine s_reg ?_
    refine v_op hT hC rfl rfl rfl rfl trivial ?_
    refine Vc.nil ?_
    refine aw_ret ?_
    refine t_ret ?_
    injection h with h
    subst h
    exact ends (Weak.refl _) rfl trivial
  · refine s_false rfl hb1 ?_
    refine aw_skip ?_
    refine t_norm ?_
    refine s_reg ?_
    refine v_op hT hC rfl rfl rfl rfl trivial ?_
    refine Vc.nil ?_
    refine aw_ret ?_
    injection h with h
    subst h
    exact ends (Weak.refl _) rfl trivial
def spec_l05Par_res (r : ByteArray) : AV := .sv (.str r)
def spec_l05Par_obs (r : ByteArray) : Objs := []
theorem spec_l05Par_ac {p0 : Par} {r : ByteArray} (h : spec_l05Par p0 = some r) : AC Try.prog 154 [.agg [.sv (.int .i64 p0.Qp), .sv (.bool p0.Large), .sv (.bool p0.Exact), .sv (.bool p0.Confined)]] [] (spec_l05Par_res r) (spec_l05Par_obs r) := by
  refine ac_of_body hT Try.func154 rfl fun C hC => ?_
  unfold spec_l05Par at h
  refine s_reg ?_
  iterate 2 refine v_op hT hC rfl rfl rfl rfl trivial ?_
  refine Vc.nil ?_
  refine s_draw hm ?_
  iterate 2 refine v_op hT hC rfl rfl rfl rfl trivial ?_
  obtain ⟨q1, hq, h⟩ := bnd_some h
  refine v_call hC [] rfl rfl rfl rfl Try.call222 (spec_l02Fix_ac hq) rfl (by decide) trivial rfl (.inl rfl) rfl ?_
  iterate 2 refine v_op hT hC rfl rfl rfl rfl trivial ?_
  obtain ⟨q2, hq, h⟩ := bnd_some h
  refine v_call hC [] rfl rfl rfl rfl Try.call224 (spec_l05Flag_ac hq) rfl (by decide) trivial rfl (.inl rfl) rfl ?_
  obtain ⟨hq, h⟩ := req_some h
  refine v_op hT hC rfl rfl rfl rfl hq ?_
  iterate 2 refine v_op hT hC rfl rfl rfl rfl trivial ?_
  obtain ⟨q3, hq, h⟩ := bnd_some h
  refine v_call hC [] rfl rfl rfl rfl Try.call224 (spec_l05Flag_ac hq) rfl (by decide) trivial rfl (.inl rfl) rfl ?_
  obtain ⟨hq, h⟩ := req_some h
  refine v_op hT hC rfl rfl rfl rfl hq ?_
  iterate 2 refine v_op hT hC rfl rfl rfl rfl trivial ?_
  obtain ⟨q4, hq, h⟩ := bnd_some h
  refine v_call hC [] rfl rfl rfl rfl Try.call224 (spec_l05Flag_ac hq) rfl (by decide) trivial rfl (.inl rfl) rfl ?_
  obtain ⟨hq, h⟩ := req_some h
  refine v_op hT hC rfl rfl rfl rfl hq ?_
  refine v_op hT hC rfl rfl rfl rfl trivial ?_
  refine Vc.nil ⟨by kernel_rfl, ?_⟩
  refine aw_ret ?_
  injection h with h
  subst h
  exact ends (Weak.refl _) rfl trivial
def spec_SourceSets_res (r : (List ByteArray)) : AV := .own 16
def spec_SourceSets_obs (r : (List ByteArray)) : Objs := [(16, .row cByteArray r)]
theorem spec_SourceSets_ac {p0 : Source} {r : (List ByteArray)} (h : spec_SourceSets p0 = some r) : AC Try.prog 70 [.agg [.sv (.int .i64 p0.Seq.Level), .sv (.int .i64 p0.Seq.Bits), .sv (.ints .i64 p0.Seq.Cols), .sv (.ints .i64 p0.Seq.Rows), .sv (.int .i64 p0.Par.Qp), .sv (.bool p0.Par.Large), .sv (.bool p0.Par.Exact), .sv (.bool p0.Par.Confined), .sv (.int .i64 p0.Rate.Qp), .sv (.int .i64 p0.Rate.Target), .sv (.int .i64 p0.Rate.Debt), .sv (.int .i64 p0.Frame), .sv (.int .i64 p0.Since), .sv (.int .i64 p0.Every), .sv (.int .i64 p0.Reach), .sv (.bool p0.Has), .sv (.int .i64 p0.Ref.Wide), .sv (.int .i64 p0.Ref.High), .sv (.str p0.Ref.Dots)]] [] (spec_SourceSets_res r) (spec_SourceSets_obs r) := by
  refine ac_of_body hT Try.func70 rfl fun C hC => ?_
  unfold spec_SourceSets at h
  refine s_reg ?_
  iterate 2 refine v_op hT hC rfl rfl rfl rfl trivial ?_
  refine Vc.nil ?_
  refine s_in ?_
  refine s_reg ?_
  refine v_op hT hC rfl rfl rfl rfl trivial ?_
  obtain ⟨q1, hq, h⟩ := bnd_some h
  refine v_call hC [] rfl rfl rfl rfl Try.call116 (spec_SourceOk_ac hq) rfl (by decide) trivial rfl (.inl rfl) rfl ?_
  refine v_op hT hC rfl rfl rfl rfl trivial ?_
  refine Vc.nil ?_
  rcases sel_some h with ⟨hb1, h⟩ | ⟨hb1, h⟩
  · refine s_true rfl hb1 ?_
    refine s_reg ?_
    iterate 2 refine v_op hT hC rfl rfl rfl rfl trivial ?_
    refine Vc.nil ?_
    refine aw_ret ?_
    refine t_ret ?_
    injection h with h
    subst h
    refine ends (τ := ⟨[(2, .own 16)], [(16, some (.row cByteArray ([] : List ByteArray)))]⟩) ?_ rfl ⟨rfl, trivial⟩
    apply w_conv hC [(16, 160)]
    · repeat' first | exact CO.nil | apply CO.gone | apply CO.row rfl rfl | apply CO.box rfl rfl | decide
    · rfl
    · decide
    · rfl
  · refine s_false rfl hb1 ?_
    refine aw_skip ?_
    refine t_norm ?_
    refine s_reg ?_
    iterate 2 refine v_op hT hC rfl rfl rfl rfl trivial ?_
    obtain ⟨q2, hq, h⟩ := bnd_some h
    refine v_call hC [] rfl rfl rfl rfl Try.call153 (spec_l05Seq_ac hq) rfl (by decide) trivial rfl (.inl rfl) rfl ?_
    obtain ⟨q3, hq, h⟩ := bnd_some h
    refine v_call hC [] rfl rfl rfl rfl Try.call152 (spec_UnitOf_ac hq) rfl (by decide) trivial rfl (.inl rfl) rfl ?_
    iterate 5 refine v_op hT hC rfl rfl rfl rfl trivial ?_
    refine Vc.nil ?_
    refine s_reg ?_
    iterate 2 refine v_op hT hC rfl rfl rfl rfl trivial ?_
    obtain ⟨q4, hq, h⟩ := bnd_some h
    refine v_call hC [] rfl rfl rfl rfl Try.call154 (spec_l05Par_ac hq) rfl (by decide) trivial rfl (.inl rfl) rfl ?_
    obtain ⟨q5, hq, h⟩ := bnd_some h
    refine v_call hC [] rfl rfl rfl rfl Try.call152 (spec_UnitOf_ac hq) rfl (by decide) trivial rfl (.inl rfl) rfl ?_
    iterate 5 refine v_op hT hC rfl rfl rfl rfl trivial ?_
    refine Vc.nil ?_
    refine s_reg ?_
    iterate 4 refine v_op hT hC rfl rfl rfl rfl trivial ?_
    refine Vc.nil ?_
    refine aw_ret ?_
    injection h with h
    subst h
    refine ends (τ := ⟨[(2, .own 16)], [(16, some (.row cByteArray ([q3.1, q5.1])))]⟩) ?_ rfl ⟨rfl, trivial⟩
    apply w_conv hC [(16, 432)]
    · repeat' first | exact CO.nil | apply CO.gone | apply CO.row rfl rfl | apply CO.box rfl rfl | decide
    · rfl
    · decide
    · rfl
def impl_SeqRow_res (r : (ByteArray × Bool)) : AV := .tup [.sv (.str r.1), .sv (.bool r.2)]
def impl_SeqRow_obs (r : (ByteArray × Bool)) : Objs := []
theorem impl_SeqRow_ac {p0 : Seq} {r : (ByteArray × Bool)} (h : impl_SeqRow p0 = some r) : AC Try.prog 156 [.agg [.sv (.int .i64 p0.Level), .sv (.int .i64 p0.Bits), .sv (.ints .i64 p0.Cols), .sv (.ints .i64 p0.Rows)]] [] (impl_SeqRow_res r) (impl_SeqRow_obs r) := by
  refine ac_of_body hT Try.func156 rfl fun C hC => ?_
  unfold impl_SeqRow at h
  refine s_reg ?_
  iterate 3 refine v_op hT hC rfl rfl rfl rfl trivial ?_
  refine Vc.nil ?_
  refine s_in ?_
  refine s_reg ?_
  refine v_op hT hC rfl rfl rfl rfl trivial ?_
  obtain ⟨q1, hq, h⟩ := bnd_some h
  refine v_call hC [] rfl rfl rfl rfl Try.call200 (impl_SeqOk_ac hq) rfl (by decide) trivial rfl (.inl rfl) rfl ?_
  refine v_op hT hC rfl rfl rfl rfl trivial ?_
  refine Vc.nil ?_
  rcases sel_some h with ⟨hb1, h⟩ | ⟨hb1, h⟩
  · refine s_true rfl hb1 ?_
    refine s_reg ?_
    iterate 2 refine v_op hT hC rfl rfl rfl rfl trivial ?_
    refine Vc.nil ?_
    refine aw_ret ?_
    refine t_ret ?_
    injection h with h
    subst h
    exact ends (Weak.refl _) rfl trivial
  · refine s_false rfl hb1 ?_
    refine aw_skip ?_
    refine t_norm ?_
    refine s_draw hm ?_
    iterate 2 refine v_op hT hC rfl rfl rfl rfl trivial ?_
    obtain ⟨q2, hq, h⟩ := bnd_some h
    refine v_call hC [] rfl rfl rfl rfl Try.call225 (impl_ue_ac hq) rfl (by decide) trivial rfl (.inl rfl) rfl ?_
    iterate 2 refine v_op hT hC rfl rfl rfl rfl trivial ?_
    obtain ⟨q3, hq, h⟩ := bnd_some h
    refine v_call hC [] rfl rfl rfl rfl Try.call226 (impl_signs_ac hq) rfl (by decide) trivial rfl (.inl rfl) rfl ?_
    obtain ⟨hq, h⟩ := req_some h
    refine v_op hT hC rfl rfl rfl rfl hq ?_
    refine v_op hT hC rfl rfl rfl rfl trivial ?_
    refine Vc.nil ⟨by kernel_rfl, ?_⟩
    refine s_in ?_
    refine s_reg ?_
    iterate 7 refine v_op hT hC rfl rfl rfl rfl trivial ?_
    refine Vc.nil ?_
    refine live [4, 23, 24, 25] [368] (s' := [_, _, _, _]) (o' := [_]) rfl rfl ?_
    obtain ⟨v25, hl, h⟩ := bnd_some h
    refine s_loop (fun v14 => ([(4, .sv (.str v14.1)), (25, .sv (.int .i64 v14.2))], [])) (fun v25 => ([(4, .sv (.str v25)), (23, .any), (24, .any), (25, .any)], [(368, none)])) hl ?_ ?_ ?_
    · try dsimp only
      apply w_conv hC []
      · repeat' first | exact CO.nil | apply CO.gone | apply CO.row rfl rfl | apply CO.box rfl rfl | decide
      · rfl
      · decide
      · rfl
    · intro v14 s hs
      have h := hs
      unfold impl_SeqRow_l12 at h
      refine s_reg ?_
      refine v_op hT hC rfl rfl rfl rfl trivial ?_
      refine Vc.nil ?_
      refine s_in ?_
      rcases sel_some h with ⟨hb10, h⟩ | ⟨hb10, h⟩
      · refine s_true rfl hb10 ?_
        refine aw_skip ?_
        refine t_norm ?_
        refine s_in ?_
        refine s_block ?_
        refine s_reg ?_
        obtain ⟨hq, h⟩ := req_some h
        refine v_op hT hC rfl rfl rfl rfl hq ?_
        obtain ⟨hq, h⟩ := req_some h
        refine v_op hT hC rfl rfl rfl rfl hq ?_
        refine v_op hT hC rfl rfl rfl rfl trivial ?_
        refine Vc.nil ?_
        refine s_reg ?_
        iterate 3 refine v_op hT hC rfl rfl rfl rfl trivial ?_
        obtain ⟨q26, hq, h⟩ := bnd_some h
        refine v_call hC [] rfl rfl rfl rfl Try.call225 (impl_ue_ac hq) rfl (by decide) trivial rfl (.inl rfl) rfl ?_
        obtain ⟨hq, h⟩ := req_some h
        refine v_op hT hC rfl rfl rfl rfl hq ?_
        refine v_op hT hC rfl rfl rfl rfl trivial ?_
        refine Vc.nil ?_
        refine s_reg ?_
        iterate 3 refine v_op hT hC rfl rfl rfl rfl trivial ?_
        refine Vc.nil ?_
        refine live [4, 23, 24, 25, 34, 35, 36] [368] (s' := [_, _, _, _, _, _, _]) (o' := [_]) rfl rfl ?_
        obtain ⟨v32, hl, h⟩ := bnd_some h
        refine s_loop (fun v29 => ([(4, .sv (.str v29.1)), (36, .sv (.int .i64 v29.2))], [])) (fun v32 => ([(4, .sv (.str v32)), (34, .any), (35, .any), (36, .any)], [])) hl ?_ ?_ ?_
        · try dsimp only
          apply w_conv hC []
          · repeat' first | exact CO.nil | apply CO.gone | apply CO.row rfl rfl | apply CO.box rfl rfl | decide
          · rfl
          · decide
          · rfl
        · intro v29 s hs
          have h := hs
          unfold impl_SeqRow_l14 at h
          refine s_reg ?_
          refine v_op hT hC rfl rfl rfl rfl trivial ?_
          refine Vc.nil ?_
          refine s_in ?_
          rcases sel_some h with ⟨hb13, h⟩ | ⟨hb13, h⟩
          · refine s_true rfl hb13 ?_
            refine aw_skip ?_
            refine t_norm ?_
            refine s_in ?_
            refine s_block ?_
            refine s_reg ?_
            obtain ⟨hq, h⟩ := req_some h
            refine v_op hT hC rfl rfl rfl rfl hq ?_
            iterate 2 refine v_op hT hC rfl rfl rfl rfl trivial ?_
            refine Vc.nil ?_
            refine aw_region ?_
            iterate 2 refine v_op hT hC rfl rfl rfl rfl trivial ?_
            obtain ⟨q33, hq, h⟩ := bnd_some h
            refine v_call hC [] rfl rfl rfl rfl Try.call225 (impl_ue_ac hq) rfl (by decide) trivial rfl (.inl rfl) rfl ?_
            obtain ⟨hq, h⟩ := req_some h
            refine v_op hT hC rfl rfl rfl rfl hq ?_
            refine v_op hT hC rfl rfl rfl rfl trivial ?_
            refine Vc.nil ?_
            refine b_norm ?_
            refine t_norm ?_
            refine aw_region ?_
            iterate 2 refine v_op hT hC rfl rfl rfl rfl trivial ?_
            refine Vc.nil ?_
            injection h with h
            subst h
            refine r_go ?_
            try dsimp only
            apply w_conv hC []
            · repeat' first | exact CO.nil | apply CO.gone | apply CO.row rfl rfl | apply CO.box rfl rfl | decide
            · rfl
            · decide
            · rfl
          · refine s_false rfl hb13 ?_
            refine aw_exit ?_
            refine t_exit ?_
            injection h with h
            subst h
            refine r_exit ?_
            refine o_out ?_
            apply w_conv hC []
            · repeat' first | exact CO.nil | apply CO.gone | apply CO.row rfl rfl | apply CO.box rfl rfl | decide
            · rfl
            · decide
            · rfl
        refine b_norm ?_
        refine t_norm ?_
        refine aw_region ?_
        iterate 2 refine v_op hT hC rfl rfl rfl rfl trivial ?_
        refine Vc.nil ?_
        injection h with h
        subst h
        refine r_go ?_
        try dsimp only
        apply w_conv hC []
        · repeat' first | exact CO.nil | apply CO.gone | apply CO.row rfl rfl | apply CO.box rfl rfl | decide
        · rfl
        · decide
        · rfl
      · refine s_false rfl hb10 ?_
        refine aw_exit ?_
        refine t_exit ?_
        injection h with h
        subst h
        refine r_exit ?_
        refine o_out ?_
        apply w_conv hC []
        · repeat' first | exact CO.nil | apply CO.gone | apply CO.row rfl rfl | apply CO.box rfl rfl | decide
        · rfl
        · decide
        · rfl
    refine t_norm ?_
    refine s_reg ?_
    iterate 3 refine v_op hT hC rfl rfl rfl rfl trivial ?_
    refine Vc.nil ?_
    refine aw_ret ?_
    injection h with h
    subst h
    exact ends (Weak.refl _) rfl trivial
def impl_sign_res (r : ByteArray) : AV := .sv (.str r)
def impl_sign_obs (r : ByteArray) : Objs := []
theorem impl_sign_ac {p0 : Bool} {r : ByteArray} (h : impl_sign p0 = some r) : AC Try.prog 227 [.sv (.bool p0)] [] (impl_sign_res r) (impl_sign_obs r) := by
  refine ac_of_body hT Try.func227 rfl fun C hC => ?_
  unfold impl_sign at h
  refine s_reg ?_
  refine v_op hT hC rfl rfl rfl rfl trivial ?_
  refine Vc.nil ?_
  refine s_in ?_
  refine s_reg ?_
  refine v_op hT hC rfl rfl rfl rfl trivial ?_
  refine Vc.nil ?_
  rcases sel_some h with ⟨hb1, h⟩ | ⟨hb1, h⟩
  · refine s_true rfl hb1 ?_
    refine s_reg ?_
    refine v_op hT hC rfl rfl rfl rfl trivial ?_
    refine Vc.nil ?_
    refine aw_ret ?_
    refine t_ret ?_
    injection h with h
    subst h
    exact ends (Weak.refl _) rfl trivial
  · refine s_false rfl hb1 ?_
    refine aw_skip ?_
    refine t_norm ?_
    refine s_reg ?_
    refine v_op hT hC rfl rfl rfl rfl trivial ?_
    refine Vc.nil ?_
    refine aw_ret ?_
    injection h with h
    subst h
    exact ends (Weak.refl _) rfl trivial
def impl_ParRow_res (r : (ByteArray × Bool)) : AV := .tup [.sv (.str r.1), .sv (.bool r.2)]
def impl_ParRow_obs (r : (ByteArray × Bool)) : Objs := []
theorem impl_ParRow_ac {p0 : Par} {r : (ByteArray × Bool)} (h : impl_ParRow p0 = some r) : AC Try.prog 157 [.agg [.sv (.int .i64 p0.Qp), .sv (.bool p0.Large), .sv (.bool p0.Exact), .sv (.bool p0.Confined)]] [] (impl_ParRow_res r) (impl_ParRow_obs r) := by
  refine ac_of_body hT Try.func157 rfl fun C hC => ?_
  unfold impl_ParRow at h
  refine s_reg ?_
  iterate 3 refine v_op hT hC rfl rfl rfl rfl trivial ?_
  refine Vc.nil ?_
  refine s_in ?_
  refine s_reg ?_
  refine v_op hT hC rfl rfl rfl rfl trivial ?_
  obtain ⟨q1, hq, h⟩ := bnd_some h
  refine v_call hC [] rfl rfl rfl rfl Try.call176 (impl_ParOk_ac hq) rfl (by decide) trivial rfl (.inl rfl) rfl ?_
  refine v_op hT hC rfl rfl rfl rfl trivial ?_
  refine Vc.nil ?_
  rcases sel_some h with ⟨hb1, h⟩ | ⟨hb1, h⟩
  · refine s_true rfl hb1 ?_
    refine s_reg ?_
    iterate 2 refine v_op hT hC rfl rfl rfl rfl trivial ?_
    refine Vc.nil ?_
    refine aw_ret ?_
    refine t_ret ?_
    injection h with h
    subst h
    exact ends (Weak.refl _) rfl trivial
  · refine s_false rfl hb1 ?_
    refine aw_skip ?_
    refine t_norm ?_
    refine s_draw hm ?_
    iterate 2 refine v_op hT hC rfl rfl rfl rfl trivial ?_
    obtain ⟨q2, hq, h⟩ := bnd_some h
    refine v_call hC [] rfl rfl rfl rfl Try.call226 (impl_signs_ac hq) rfl (by decide) trivial rfl (.inl rfl) rfl ?_
    iterate 2 refine v_op hT hC rfl rfl rfl rfl trivial ?_
    obtain ⟨q3, hq, h⟩ := bnd_some h
    refine v_call hC [] rfl rfl rfl rfl Try.call227 (impl_sign_ac hq) rfl (by decide) trivial rfl (.inl rfl) rfl ?_
    obtain ⟨hq, h⟩ := req_some h
    refine v_op hT hC rfl rfl rfl rfl hq ?_
    iterate 2 refine v_op hT hC rfl rfl rfl rfl trivial ?_
    obtain ⟨q4, hq, h⟩ := bnd_some h
    refine v_call hC [] rfl rfl rfl rfl Try.call227 (impl_sign_ac hq) rfl (by decide) trivial rfl (.inl rfl) rfl ?_
    obtain ⟨hq, h⟩ := req_some h
    refine v_op hT hC rfl rfl rfl rfl hq ?_
    iterate 2 refine v_op hT hC rfl rfl rfl rfl trivial ?_
    obtain ⟨q5, hq, h⟩ := bnd_some h
    refine v_call hC [] rfl rfl rfl rfl Try.call227 (impl_sign_ac hq) rfl (by decide) trivial rfl (.inl rfl) rfl ?_
    obtain ⟨hq, h⟩ := req_some h
    refine v_op hT hC rfl rfl rfl rfl hq ?_
    iterate 2 refine v_op hT hC rfl rfl rfl rfl trivial ?_
    refine Vc.nil ⟨by kernel_rfl, ?_⟩
    refine aw_ret ?_
    injection h with h
    subst h
    exact ends (Weak.refl _) rfl trivial
def impl_RowOk_res (r : Bool) : AV := .sv (.bool r)
def impl_RowOk_obs (r : Bool) : Objs := []
theorem impl_RowOk_ac {p0 : ByteArray} {r : Bool} (h : impl_RowOk p0 = some r) : AC Try.prog 250 [.sv (.str p0)] [] (impl_RowOk_res r) (impl_RowOk_obs r) := by
  refine ac_of_body hT Try.func250 rfl fun C hC => ?_
  unfold impl_RowOk at h
  refine s_reg ?_
  refine v_op hT hC rfl rfl rfl rfl trivial ?_
  refine Vc.nil ?_
  refine s_in ?_
  refine s_reg ?_
  iterate 3 refine v_op hT hC rfl rfl rfl rfl trivial ?_
  refine Vc.nil ?_
  rcases sel_some h with ⟨hb1, h⟩ | ⟨hb1, h⟩
  · refine s_true rfl hb1 ?_
    refine s_reg ?_
    refine v_op hT hC rfl rfl rfl rfl trivial ?_
    refine Vc.nil ?_
    refine aw_ret ?_
    refine t_ret ?_
    injection h with h
    subst h
    exact ends (Weak.refl _) rfl trivial
  · refine s_false rfl hb1 ?_
    refine aw_skip ?_
    refine t_norm ?_
    refine s_in ?_
    refine s_reg ?_
    refine v_op hT hC rfl rfl rfl rfl trivial ?_
    refine Vc.nil ?_
    refine live [0, 3] [] (s' := [_, _]) (o' := []) rfl rfl ?_
    obtain ⟨o8, hl, h⟩ := bnd_some h
    refine s_loopR (fun v3 => ([(3, .sv (.int .i64 v3))], [])) (fun v6 => ([(0, .any), (3, .any)], [])) (fun r => EndsA C T Try.f250.results.toList (impl_RowOk_res r) (impl_RowOk_obs r)) hl ?_ ?_ ?_ ?_
    · apply w_conv hC []
      · repeat' first | exact CO.nil | apply CO.gone | apply CO.row rfl rfl | apply CO.box rfl rfl | decide
      · rfl
      · decide
      · rfl
    · intro v3 s hs
      have h := hs
      unfold impl_RowOk_l2 at h
      refine s_in ?_
      refine s_reg ?_
      iterate 4 refine v_op hT hC rfl rfl rfl rfl trivial ?_
      refine Vc.nil ?_
      rcases sel_some h with ⟨hb8, h⟩ | ⟨hb8, h⟩
      · refine s_true rfl hb8 ?_
        refine aw_skip ?_
        refine t_norm ?_
        refine s_in ?_
        refine s_block ?_
        refine live [0, 3] [] (s' := [_, _]) (o' := []) rfl rfl ?_
        obtain ⟨v7, h1, h⟩ := bnd_some h
        refine aw_to ([(22, .sv (.bool v7))], []) ?_ ?_
        · have h := h1
          refine aw_region ?_
          iterate 2 refine v_op hT hC rfl rfl rfl rfl trivial ?_
          obtain ⟨hq, h⟩ := req_some h
          refine v_op hT hC rfl rfl rfl rfl hq ?_
          iterate 2 refine v_op hT hC rfl rfl rfl rfl trivial ?_
          rcases sel_some h with ⟨hb9, h⟩ | ⟨hb9, h⟩
          · iterate 2 refine v_on hT hC rfl rfl rfl rfl hb9 rfl rfl rfl trivial ?_
            obtain ⟨hq, h⟩ := req_some h
            refine v_on hT hC rfl rfl rfl rfl hb9 rfl rfl rfl hq ?_
            refine v_on hT hC rfl rfl rfl rfl hb9 rfl rfl rfl trivial ?_
            refine v_pick hC rfl rfl rfl (b := true) hb9 rfl rfl rfl trivial ?_
            refine Vc.nil ?_
            injection h with h
            subst h
            refine m_norm ?_
            apply w_conv hC []
            · repeat' first | exact CO.nil | apply CO.gone | apply CO.row rfl rfl | apply CO.box rfl rfl | decide
            · rfl
            · decide
            · rfl
          · refine v_off hC rfl rfl rfl rfl hb9 rfl rfl ?_
            refine v_off hC rfl rfl rfl rfl hb9 rfl rfl ?_
            refine v_off hC rfl rfl rfl rfl hb9 rfl rfl ?_
            refine v_off hC rfl rfl rfl rfl hb9 rfl rfl ?_
            refine v_pick hC rfl rfl rfl (b := false) hb9 rfl rfl rfl trivial ?_
            refine Vc.nil ?_
            injection h with h
            subst h
            refine m_norm ?_
            apply w_conv hC []
            · repeat' first | exact CO.nil | apply CO.gone | apply CO.row rfl rfl | apply CO.box rfl rfl | decide
            · rfl
            · decide
            · rfl
        rcases sel_some h with ⟨hb10, h⟩ | ⟨hb10, h⟩
        · refine s_true rfl hb10 ?_
          refine s_reg ?_
          refine v_op hT hC rfl rfl rfl rfl trivial ?_
          refine Vc.nil ?_
          refine aw_ret ?_
          refine b_ret ?_
          refine t_ret ?_
          injection h with h
          subst h
          refine r_ret ?_
          refine o_ret ?_
          exact ends (Weak.refl _) rfl trivial
        · refine s_false rfl hb10 ?_
          refine aw_skip ?_
          refine b_norm ?_
          refine t_norm ?_
          refine aw_region ?_
          iterate 3 refine v_op hT hC rfl rfl rfl rfl trivial ?_
          refine Vc.nil ?_
          injection h with h
          subst h
          refine r_go ?_
          apply w_conv hC []
          · repeat' first | exact CO.nil | apply CO.gone | apply CO.row rfl rfl | apply CO.box rfl rfl | decide
          · rfl
          · decide
          · rfl
      · refine s_false rfl hb8 ?_
        refine aw_exit ?_
        refine t_exit ?_
        injection h with h
        subst h
        refine r_exit ?_
        refine o_both ?_
        apply w_conv hC []
        · repeat' first | exact CO.nil | apply CO.gone | apply CO.row rfl rfl | apply CO.box rfl rfl | decide
        · rfl
        · decide
        · rfl
    · intro v6 e
      subst e
      refine t_norm ?_
      refine s_reg ?_
      refine v_op hT hC rfl rfl rfl rfl trivial ?_
      refine Vc.nil ?_
      refine aw_ret ?_
      injection h with h
      subst h
      exact ends (Weak.refl _) rfl trivial
    · intro r' σ' e hE
      subst e
      injection h with h
      subst h
      refine t_ret ?_
      exact hE
def impl_RowBytes_res (r : (ByteArray × Bool)) : AV := .tup [.sv (.str r.1), .sv (.bool r.2)]
def impl_RowBytes_obs (r : (ByteArray × Bool)) : Objs := []
theorem impl_RowBytes_ac {p0 : ByteArray} {r : (ByteArray × Bool)} (h : impl_RowBytes p0 = some r) : AC Try.prog 228 [.sv (.str p0)] [] (impl_RowBytes_res r) (impl_RowBytes_obs r) := by
  refine ac_of_body hT Try.func228 rfl fun C hC => ?_
  unfold impl_RowBytes at h
  refine s_reg ?_
  iterate 2 refine v_op hT hC rfl rfl rfl rfl trivial ?_
  refine Vc.nil ?_
  refine s_in ?_
  refine s_reg ?_
  refine v_op hT hC rfl rfl rfl rfl trivial ?_
  obtain ⟨q1, hq, h⟩ := bnd_some h
  refine v_call hC [] rfl rfl rfl rfl Try.call250 (impl_RowOk_ac hq) rfl (by decide) trivial rfl (.inl rfl) rfl ?_
  refine v_op hT hC rfl rfl rfl rfl trivial ?_
  refine Vc.nil ?_
  rcases sel_some h with ⟨hb1, h⟩ | ⟨hb1, h⟩
  · refine s_true rfl hb1 ?_
    refine s_reg ?_
    iterate 2 refine v_op hT hC rfl rfl rfl rfl trivial ?_
    refine Vc.nil ?_
    refine aw_ret ?_
    refine t_ret ?_
    injection h with h
    subst h
    exact ends (Weak.refl _) rfl trivial
  · refine s_false rfl hb1 ?_
    refine aw_skip ?_
    refine t_norm ?_
    refine s_reg ?_
    iterate 2 refine v_op hT hC rfl rfl rfl rfl trivial ?_
    obtain ⟨hq, h⟩ := req_some h
    refine v_op hT hC rfl rfl rfl rfl hq ?_
    refine v_op hT hC rfl rfl rfl rfl trivial ?_
    obtain ⟨hq, h⟩ := req_some h
    refine v_op hT hC rfl rfl rfl rfl ⟨hq.1, hq.2.1, hq.2.2, by decide⟩ ?_
    refine v_op hT hC rfl rfl rfl rfl trivial ?_
    refine Vc.nil ?_
    refine s_in ?_
    refine s_reg ?_
    refine v_op hT hC rfl rfl rfl rfl trivial ?_
    refine Vc.nil ?_
    refine live [0, 4, 5] [208] (s' := [_, _, _]) (o' := [_]) rfl rfl ?_
    obtain ⟨v7, hl, h⟩ := bnd_some h
    refine s_loop (fun v4 => ([(5, .sv (.int .i64 v4.1))], [(208, some (.ints .u8 v4.2))])) (fun v7 => ([(5, .any)], [(208, some (.ints .u8 v7))])) hl ?_ ?_ ?_
    · try dsimp only
      apply w_conv hC []
      · repeat' first | exact CO.nil | apply CO.gone | apply CO.row rfl rfl | apply CO.box rfl rfl | decide
      · rfl
      · decide
      · rfl
    · intro v4 s hs
      have h := hs
      unfold impl_RowBytes_l2 at h
      refine s_in ?_
      refine s_reg ?_
      iterate 4 refine v_op hT hC rfl rfl rfl rfl trivial ?_
      refine Vc.nil ?_
      rcases sel_some h with ⟨hb6, h⟩ | ⟨hb6, h⟩
      · refine s_true rfl hb6 ?_
        refine aw_skip ?_
        refine t_norm ?_
        refine live [0, 4, 5] [208] (s' := [_, _, _]) (o' := [_]) rfl rfl ?_
        obtain ⟨v8, h1, h⟩ := bnd_some h
        refine aw_to ([], [(208, some (.ints .u8 v8))]) ?_ ?_
        · have h := h1
          refine s_block ?_
          refine s_reg ?_
          iterate 2 refine v_op hT hC rfl rfl rfl rfl trivial ?_
          obtain ⟨hq, h⟩ := req_some h
          refine v_op hT hC rfl rfl rfl rfl hq ?_
          refine v_op hT hC rfl rfl rfl rfl trivial ?_
          refine Vc.nil ?_
          rcases sel_some h with ⟨hb7, h⟩ | ⟨hb7, h⟩
          · refine s_true rfl hb7 ?_
            refine aw_draw hm ?_
            iterate 2 refine v_op hT hC rfl rfl rfl rfl trivial ?_
            obtain ⟨hq, h⟩ := req_some h
            refine v_op hT hC rfl rfl rfl rfl hq ?_
            obtain ⟨hq, h⟩ := req_some h
            refine v_op hT hC rfl rfl rfl rfl hq ?_
            obtain ⟨hq, h⟩ := req_some h
            refine v_op hT hC rfl rfl rfl rfl hq ?_
            refine v_op hT hC rfl rfl rfl rfl trivial ?_
            obtain ⟨hq, h⟩ := req_some h
            refine v_op hT hC rfl rfl rfl rfl hq ?_
            obtain ⟨hq, h⟩ := req_some h
            refine v_op hT hC rfl rfl rfl rfl hq ?_
            refine v_op hT hC rfl rfl rfl rfl trivial ?_
            obtain ⟨hq, h⟩ := req_some h
            refine v_op hT hC rfl rfl rfl rfl hq ?_
            obtain ⟨hq, h⟩ := req_some h
            refine v_op hT hC rfl rfl rfl rfl hq ?_
            refine Vc.nil ⟨by kernel_rfl, ?_⟩
            refine b_norm ?_
            injection h with h
            subst h
            refine m_norm ?_
            apply w_conv hC []
            · repeat' first | exact CO.nil | apply CO.gone | apply CO.row rfl rfl | apply CO.box rfl rfl | decide
            · rfl
            · decide
            · rfl
          · refine s_false rfl hb7 ?_
            refine aw_skip ?_
            refine b_norm ?_
            injection h with h
            subst h
            refine m_norm ?_
            apply w_conv hC []
            · repeat' first | exact CO.nil | apply CO.gone | apply CO.row rfl rfl | apply CO.box rfl rfl | decide
            · rfl
            · decide
            · rfl
        refine aw_region ?_
        iterate 3 refine v_op hT hC rfl rfl rfl rfl trivial ?_
        refine Vc.nil ?_
        injection h with h
        subst h
        refine r_go ?_
        try dsimp only
        apply w_conv hC []
        · repeat' first | exact CO.nil | apply CO.gone | apply CO.row rfl rfl | apply CO.box rfl rfl | decide
        · rfl
        · decide
        · rfl
      · refine s_false rfl hb6 ?_
        refine aw_exit ?_
        refine t_exit ?_
        injection h with h
        subst h
        refine r_exit ?_
        refine o_out ?_
        apply w_conv hC []
        · repeat' first | exact CO.nil | apply CO.gone | apply CO.row rfl rfl | apply CO.box rfl rfl | decide
        · rfl
        · decide
        · rfl
    refine t_norm ?_
    refine s_draw hm ?_
    iterate 3 refine v_op hT hC rfl rfl rfl rfl trivial ?_
    obtain ⟨hq, h⟩ := req_some h
    refine v_op hT hC rfl rfl rfl rfl hq ?_
    obtain ⟨hq, h⟩ := req_some h
    refine v_op hT hC rfl rfl rfl rfl hq ?_
    obtain ⟨hq, h⟩ := req_some h
    refine v_op hT hC rfl rfl rfl rfl hq ?_
    iterate 2 refine v_op hT hC rfl rfl rfl rfl trivial ?_
    obtain ⟨hq, h⟩ := req_some h
    refine v_op hT hC rfl rfl rfl rfl hq ?_
    obtain ⟨hq, h⟩ := req_some h
    refine v_op hT hC rfl rfl rfl rfl hq ?_
    refine v_op hT hC rfl rfl rfl rfl trivial ?_
    obtain ⟨hq, h⟩ := req_some h
    refine v_op hT hC rfl rfl rfl rfl hq ?_
    obtain ⟨hq, h⟩ := req_some h
    refine v_op hT hC rfl rfl rfl rfl hq ?_
    refine Vc.nil ⟨by kernel_rfl, ?_⟩
    refine s_reg ?_
    iterate 4 refine v_op hT hC rfl rfl rfl rfl trivial ?_
    refine Vc.nil ?_
    refine aw_ret ?_
    injection h with h
    subst h
    exact ends (Weak.refl _) rfl trivial
def impl_isKind_res (r : Bool) : AV := .sv (.bool r)
def impl_isKind_obs (r : Bool) : Objs := []
theorem impl_isKind_ac {p0 : Int} {r : Bool} (h : impl_isKind p0 = some r) : AC Try.prog 229 [.sv (.int .i64 p0)] [] (impl_isKind_res r) (impl_isKind_obs r) := by
  refine ac_of_body hT Try.func229 rfl fun C hC => ?_
  unfold impl_isKind at h
  refine s_reg ?_
  refine v_op hT hC rfl rfl rfl rfl trivial ?_
  refine Vc.nil ?_
  refine live [0, 2] [] (s' := [_, _]) (o' := []) rfl rfl ?_
  obtain ⟨v1, h1, h⟩ := bnd_some h
  refine aw_to ([(2, .sv (.bool v1)), (0, .any)], []) ?_ ?_
  · have h := h1
    refine aw_region ?_
    iterate 3 refine v_op hT hC rfl rfl rfl rfl trivial ?_
    rcases sel_some h with ⟨hb1, h⟩ | ⟨hb1, h⟩
    · refine v_off hC rfl rfl rfl rfl hb1 rfl rfl ?_
      refine v_off hC rfl rfl rfl rfl hb1 rfl rfl ?_
      refine v_pick hC rfl rfl rfl (b := true) hb1 rfl rfl rfl trivial ?_
      refine v_op hT hC rfl rfl rfl rfl trivial ?_
      refine v_off hC rfl rfl rfl rfl rfl rfl rfl ?_
      refine v_off hC rfl rfl rfl rfl rfl rfl rfl ?_
      iterate 2 refine v_op hT hC rfl rfl rfl rfl trivial ?_
      refine v_off hC rfl rfl rfl rfl rfl rfl rfl ?_
      refine v_off hC rfl rfl rfl rfl rfl rfl rfl ?_
      iterate 2 refine v_op hT hC rfl rfl rfl rfl trivial ?_
      refine Vc.nil ?_
      injection h with h
      subst h
      refine m_norm ?_
      apply w_conv hC []
      · repeat' first | exact CO.nil | apply CO.gone | apply CO.row rfl rfl | apply CO.box rfl rfl | decide
      · rfl
      · decide
      · rfl
    · iterate 2 refine v_on hT hC rfl rfl rfl rfl hb1 rfl rfl rfl trivial ?_
      refine v_pick hC rfl rfl rfl (b := false) hb1 rfl rfl rfl trivial ?_
      refine v_op hT hC rfl rfl rfl rfl trivial ?_
      rcases sel_some h with ⟨hb2, h⟩ | ⟨hb2, h⟩
      · refine v_off hC rfl rfl rfl rfl hb2 rfl rfl ?_
        refine v_off hC rfl rfl rfl rfl hb2 rfl rfl ?_
        refine v_pick hC rfl rfl rfl (b := true) hb2 rfl rfl rfl trivial ?_
        refine v_op hT hC rfl rfl rfl rfl trivial ?_
        refine v_off hC rfl rfl rfl rfl rfl rfl rfl ?_
        refine v_off hC rfl rfl rfl rfl rfl rfl rfl ?_
        iterate 2 refine v_op hT hC rfl rfl rfl rfl trivial ?_
        refine Vc.nil ?_
        injection h with h
        subst h
        refine m_norm ?_
        apply w_conv hC []
        · repeat' first | exact CO.nil | apply CO.gone | apply CO.row rfl rfl | apply CO.box rfl rfl | decide
        · rfl
        · decide
        · rfl
      · iterate 2 refine v_on hT hC rfl rfl rfl rfl hb2 rfl rfl rfl trivial ?_
        refine v_pick hC rfl rfl rfl (b := false) hb2 rfl rfl rfl trivial ?_
        refine v_op hT hC rfl rfl rfl rfl trivial ?_
        rcases sel_some h with ⟨hb3, h⟩ | ⟨hb3, h⟩
        · refine v_off hC rfl rfl rfl rfl hb3 rfl rfl ?_
          refine v_off hC rfl rfl rfl rfl hb3 rfl rfl ?_
          refine v_pick hC rfl rfl rfl (b := true) hb3 rfl rfl rfl trivial ?_
          refine v_op hT hC rfl rfl rfl rfl trivial ?_
          refine Vc.nil ?_
          injection h with h
          subst h
          refine m_norm ?_
          apply w_conv hC []
          · repeat' first | exact CO.nil | apply CO.gone | apply CO.row rfl rfl | apply CO.box rfl rfl | decide
          · rfl
          · decide
          · rfl
        · iterate 2 refine v_on hT hC rfl rfl rfl rfl hb3 rfl rfl rfl trivial ?_
          refine v_pick hC rfl rfl rfl (b := false) hb3 rfl rfl rfl trivial ?_
          refine v_op hT hC rfl rfl rfl rfl trivial ?_
          refine Vc.nil ?_
          injection h with h
          subst h
          refine m_norm ?_
          apply w_conv hC []
          · repeat' first | exact CO.nil | apply CO.gone | apply CO.row rfl rfl | apply CO.box rfl rfl | decide
          · rfl
          · decide
          · rfl
  refine aw_ret ?_
  injection h with h
  subst h
  exact ends (Weak.refl _) rfl trivial
def impl_UnitOf_res (r : (ByteArray × Bool)) : AV := .tup [.sv (.str r.1), .sv (.bool r.2)]
def impl_UnitOf_obs (r : (ByteArray × Bool)) : Objs := []
theorem impl_UnitOf_ac {p0 : Int} {p1 : ByteArray} {r : (ByteArray × Bool)} (h : impl_UnitOf p0 p1 = some r) : AC Try.prog 158 [.sv (.int .i64 p0), .sv (.str p1)] [] (impl_UnitOf_res r) (impl_UnitOf_obs r) := by
  refine ac_of_body hT Try.func158 rfl fun C hC => ?_
  unfold impl_UnitOf at h
  refine s_reg ?_
  iterate 2 refine v_op hT hC rfl rfl rfl rfl trivial ?_
  refine Vc.nil ?_
  refine s_reg ?_
  refine v_op hT hC rfl rfl rfl rfl trivial ?_
  obtain ⟨q1, hq, h⟩ := bnd_some h
  refine v_call hC [] rfl rfl rfl rfl Try.call228 (impl_RowBytes_ac hq) rfl (by decide) trivial rfl (.inl rfl) rfl ?_
  iterate 5 refine v_op hT hC rfl rfl rfl rfl trivial ?_
  refine Vc.nil ?_
  refine s_in ?_
  refine live [0, 6, 7] [] (s' := [_, _, _]) (o' := []) rfl rfl ?_
  obtain ⟨v2, h1, h⟩ := bnd_some h
  refine aw_to ([(19, .sv (.bool v2)), (7, .any)], []) ?_ ?_
  · have h := h1
    refine aw_region ?_
    iterate 3 refine v_op hT hC rfl rfl rfl rfl trivial ?_
    rcases sel_some h with ⟨hb1, h⟩ | ⟨hb1, h⟩
    · refine v_on hT hC rfl rfl rfl rfl (congrArg Bool.not hb1) rfl rfl rfl trivial ?_
      obtain ⟨q3, hq, h⟩ := bnd_some h
      refine v_call_on hC [] rfl rfl rfl rfl (congrArg Bool.not hb1) rfl rfl rfl Try.call229 (impl_isKind_ac hq) rfl (by decide) trivial rfl (.inl rfl) rfl ?_
      refine v_on hT hC rfl rfl rfl rfl (congrArg Bool.not hb1) rfl rfl rfl trivial ?_
      refine v_pick hC rfl rfl rfl (b := false) (congrArg Bool.not hb1) rfl rfl rfl trivial ?_
      refine Vc.nil ?_
      injection h with h
      subst h
      refine m_norm ?_
      apply w_conv hC []
      · repeat' first | exact CO.nil | apply CO.gone | apply CO.row rfl rfl | apply CO.box rfl rfl | decide
      · rfl
      · decide
      · rfl
    · refine v_off hC rfl rfl rfl rfl (congrArg Bool.not hb1) rfl rfl ?_
      refine v_off hC rfl rfl rfl rfl (congrArg Bool.not hb1) rfl rfl ?_
      refine v_off hC rfl rfl rfl rfl (congrArg Bool.not hb1) rfl rfl ?_
      refine v_pick hC rfl rfl rfl (b := true) (congrArg Bool.not hb1) rfl rfl rfl trivial ?_
      refine Vc.nil ?_
      injection h with h
      subst h
      refine m_norm ?_
      apply w_conv hC []
      · repeat' first | exact CO.nil | apply CO.gone | apply CO.row rfl rfl | apply CO.box rfl rfl | decide
      · rfl
      · decide
      · rfl
  rcases sel_some h with ⟨hb2, h⟩ | ⟨hb2, h⟩
  · refine s_true rfl hb2 ?_
    refine s_reg ?_
    iterate 2 refine v_op hT hC rfl rfl rfl rfl trivial ?_
    refine Vc.nil ?_
    refine aw_ret ?_
    refine t_ret ?_
    injection h with h
    subst h
    exact ends (Weak.refl _) rfl trivial
  · refine s_false rfl hb2 ?_
    refine aw_skip ?_
    refine t_norm ?_
    refine s_reg ?_
    iterate 5 refine v_op hT hC rfl rfl rfl rfl trivial ?_
    obtain ⟨hq, h⟩ := req_some h
    refine v_op hT hC rfl rfl rfl rfl hq ?_
    iterate 2 refine v_op hT hC rfl rfl rfl rfl trivial ?_
    refine Vc.nil ?_
    refine aw_ret ?_
    injection h with h
    subst h
    exact ends (Weak.refl _) rfl trivial
def impl_SourceSets_res (r : (List ByteArray)) : AV := .own 16
def impl_SourceSets_obs (r : (List ByteArray)) : Objs := [(16, .row cByteArray r)]
theorem impl_SourceSets_ac {p0 : Source} {r : (List ByteArray)} (h : impl_SourceSets p0 = some r) : AC Try.prog 72 [.agg [.sv (.int .i64 p0.Seq.Level), .sv (.int .i64 p0.Seq.Bits), .sv (.ints .i64 p0.Seq.Cols), .sv (.ints .i64 p0.Seq.Rows), .sv (.int .i64 p0.Par.Qp), .sv (.bool p0.Par.Large), .sv (.bool p0.Par.Exact), .sv (.bool p0.Par.Confined), .sv (.int .i64 p0.Rate.Qp), .sv (.int .i64 p0.Rate.Target), .sv (.int .i64 p0.Rate.Debt), .sv (.int .i64 p0.Frame), .sv (.int .i64 p0.Since), .sv (.int .i64 p0.Every), .sv (.int .i64 p0.Reach), .sv (.bool p0.Has), .sv (.int .i64 p0.Ref.Wide), .sv (.int .i64 p0.Ref.High), .sv (.str p0.Ref.Dots)]] [] (impl_SourceSets_res r) (impl_SourceSets_obs r) := by
  refine ac_of_body hT Try.func72 rfl fun C hC => ?_
  unfold impl_SourceSets at h
  refine s_reg ?_
  iterate 2 refine v_op hT hC rfl rfl rfl rfl trivial ?_
  refine Vc.nil ?_
  refine s_in ?_
  refine s_reg ?_
  refine v_op hT hC rfl rfl rfl rfl trivial ?_
  obtain ⟨q1, hq, h⟩ := bnd_some h
  refine v_call hC [] rfl rfl rfl rfl Try.call118 (impl_SourceOk_ac hq) rfl (by decide) trivial rfl (.inl rfl) rfl ?_
  refine v_op hT hC rfl rfl rfl rfl trivial ?_
  refine Vc.nil ?_
  rcases sel_some h with ⟨hb1, h⟩ | ⟨hb1, h⟩
  · refine s_true rfl hb1 ?_
    refine s_reg ?_
    iterate 2 refine v_op hT hC rfl rfl rfl rfl trivial ?_
    refine Vc.nil ?_
    refine aw_ret ?_
    refine t_ret ?_
    injection h with h
    subst h
    refine ends (τ := ⟨[(2, .own 16)], [(16, some (.row cByteArray ([] : List ByteArray)))]⟩) ?_ rfl ⟨rfl, trivial⟩
    apply w_conv hC [(16, 224)]
    · repeat' first | exact CO.nil | apply CO.gone | apply CO.row rfl rfl | apply CO.box rfl rfl | decide
    · rfl
    · decide
    · rfl
  · refine s_false rfl hb1 ?_
    refine aw_skip ?_
    refine t_norm ?_
    refine s_reg ?_
    iterate 2 refine v_op hT hC rfl rfl rfl rfl trivial ?_
    obtain ⟨q2, hq, h⟩ := bnd_some h
    refine v_call hC [] rfl rfl rfl rfl Try.call156 (impl_SeqRow_ac hq) rfl (by decide) trivial rfl (.inl rfl) rfl ?_
    iterate 5 refine v_op hT hC rfl rfl rfl rfl trivial ?_
    refine Vc.nil ?_
    refine s_reg ?_
    iterate 2 refine v_op hT hC rfl rfl rfl rfl trivial ?_
    obtain ⟨q3, hq, h⟩ := bnd_some h
    refine v_call hC [] rfl rfl rfl rfl Try.call157 (impl_ParRow_ac hq) rfl (by decide) trivial rfl (.inl rfl) rfl ?_
    iterate 5 refine v_op hT hC rfl rfl rfl rfl trivial ?_
    refine Vc.nil ?_
    refine s_reg ?_
    refine v_op hT hC rfl rfl rfl rfl trivial ?_
    obtain ⟨q4, hq, h⟩ := bnd_some h
    refine v_call hC [] rfl rfl rfl rfl Try.call158 (impl_UnitOf_ac hq) rfl (by decide) trivial rfl (.inl rfl) rfl ?_
    iterate 5 refine v_op hT hC rfl rfl rfl rfl trivial ?_
    refine Vc.nil ?_
    refine s_reg ?_
    refine v_op hT hC rfl rfl rfl rfl trivial ?_
    obtain ⟨q5, hq, h⟩ := bnd_some h
    refine v_call hC [] rfl rfl rfl rfl Try.call158 (impl_UnitOf_ac hq) rfl (by decide) trivial rfl (.inl rfl) rfl ?_
    iterate 5 refine v_op hT hC rfl rfl rfl rfl trivial ?_
    refine Vc.nil ?_
    refine s_reg ?_
    iterate 4 refine v_op hT hC rfl rfl rfl rfl trivial ?_
    refine Vc.nil ?_
    refine aw_ret ?_
    injection h with h
    subst h
    refine ends (τ := ⟨[(2, .own 16)], [(16, some (.row cByteArray ([q4.1, q5.1])))]⟩) ?_ rfl ⟨rfl, trivial⟩
    apply w_conv hC [(16, 624)]
    · repeat' first | exact CO.nil | apply CO.gone | apply CO.row rfl rfl | apply CO.box rfl rfl | decide
    · rfl
    · decide
    · rfl
def laws_FnExactSourceSets_res (r : Bool) : AV := .sv (.bool r)
def laws_FnExactSourceSets_obs (r : Bool) : Objs := []
theorem laws_FnExactSourceSets_ac {p0 : Source} {r : Bool} (h : laws_FnExactSourceSets p0 = some r) : AC Try.prog 12 [.agg [.sv (.int .i64 p0.Seq.Level), .sv (.int .i64 p0.Seq.Bits), .sv (.ints .i64 p0.Seq.Cols), .sv (.ints .i64 p0.Seq.Rows), .sv (.int .i64 p0.Par.Qp), .sv (.bool p0.Par.Large), .sv (.bool p0.Par.Exact), .sv (.bool p0.Par.Confined), .sv (.int .i64 p0.Rate.Qp), .sv (.int .i64 p0.Rate.Target), .sv (.int .i64 p0.Rate.Debt), .sv (.int .i64 p0.Frame), .sv (.int .i64 p0.Since), .sv (.int .i64 p0.Every), .sv (.int .i64 p0.Reach), .sv (.bool p0.Has), .sv (.int .i64 p0.Ref.Wide), .sv (.int .i64 p0.Ref.High), .sv (.str p0.Ref.Dots)]] [] (laws_FnExactSourceSets_res r) (laws_FnExactSourceSets_obs r) := by
  refine ac_of_body hT Try.func12 rfl fun C hC => ?_
  unfold laws_FnExactSourceSets at h
  refine s_reg ?_
  iterate 2 refine v_op hT hC rfl rfl rfl rfl trivial ?_
  refine Vc.nil ?_
  refine s_reg ?_
  refine v_op hT hC rfl rfl rfl rfl trivial ?_
  refine Vc.nil ?_
  refine s_reg ?_
  iterate 2 refine v_op hT hC rfl rfl rfl rfl trivial ?_
  obtain ⟨q1, hq, h⟩ := bnd_some h
  refine v_call hC [] rfl rfl rfl rfl Try.call69 (laws_szSource_ac hq) rfl (by decide) trivial rfl (.inl rfl) rfl ?_
  refine v_op hT hC rfl rfl rfl rfl trivial ?_
  refine Vc.nil ?_
  refine s_in ?_
  refine s_reg ?_
  iterate 2 refine v_op hT hC rfl rfl rfl rfl trivial ?_
  refine Vc.nil ?_
  rcases sel_some h with ⟨hb1, h⟩ | ⟨hb1, h⟩
  · refine s_true rfl hb1 ?_
    refine s_reg ?_
    refine v_op hT hC rfl rfl rfl rfl trivial ?_
    refine Vc.nil ?_
    refine aw_ret ?_
    refine t_ret ?_
    injection h with h
    subst h
    exact ends (Weak.refl _) rfl trivial
  · refine s_false rfl hb1 ?_
    refine aw_skip ?_
    refine t_norm ?_
    refine s_reg ?_
    refine v_op hT hC rfl rfl rfl rfl trivial ?_
    obtain ⟨q2, hq, h⟩ := bnd_some h
    refine v_call hC [(16, 272), (17, 273)] rfl rfl rfl rfl Try.call71 (laws_toSource_ac hq) rfl (by decide) trivial rfl (.inl rfl) rfl ?_
    obtain ⟨q3, hq, h⟩ := bnd_some h
    refine v_call hC [(16, 288)] rfl rfl rfl rfl Try.call70 (spec_SourceSets_ac hq) rfl (by decide) trivial rfl (.inr ⟨rfl, ⟨fun _ => rfl, trivial⟩⟩) rfl ?_
    refine v_op hT hC rfl rfl rfl rfl trivial ?_
    refine Vc.nil ?_
    refine s_reg ?_
    refine v_op hT hC rfl rfl rfl rfl trivial ?_
    obtain ⟨q4, hq, h⟩ := bnd_some h
    refine v_call hC [(16, 320), (17, 321)] rfl rfl rfl rfl Try.call71 (laws_toSource_ac hq) rfl (by decide) trivial rfl (.inl rfl) rfl ?_
    iterate 2 refine v_op hT hC rfl rfl rfl rfl trivial ?_
    refine Vc.nil ?_
    refine s_reg ?_
    refine v_op hT hC rfl rfl rfl rfl trivial ?_
    obtain ⟨q5, hq, h⟩ := bnd_some h
    refine v_call hC [(16, 352)] rfl rfl rfl rfl Try.call72 (impl_SourceSets_ac hq) rfl (by decide) trivial rfl (.inr ⟨rfl, ⟨fun _ => rfl, trivial⟩⟩) rfl ?_
    refine v_op hT hC rfl rfl rfl rfl trivial ?_
    refine Vc.nil ?_
    refine s_in ?_
    refine s_reg ?_
    iterate 2 refine v_op hT hC rfl rfl rfl rfl trivial ?_
    obtain ⟨q6, hq, h⟩ := bnd_some h
    refine v_call hC [] rfl rfl rfl rfl Try.call42 (laws_eqStringS_ac hq) rfl (by decide) trivial rfl (.inr ⟨rfl, trivial⟩) rfl ?_
    refine v_op hT hC rfl rfl rfl rfl trivial ?_
    refine Vc.nil ?_
    rcases sel_some h with ⟨hb2, h⟩ | ⟨hb2, h⟩
    · refine s_true rfl hb2 ?_
      refine s_reg ?_
      refine v_op hT hC rfl rfl rfl rfl trivial ?_
      refine Vc.nil ?_
      refine aw_ret ?_
      refine t_ret ?_
      injection h with h
      subst h
      exact ends (Weak.refl _) rfl trivial
    · refine s_false rfl hb2 ?_
      refine aw_skip ?_
      refine t_norm ?_
      refine s_in ?_
      refine s_draw hm ?_
      iterate 2 refine v_op hT hC rfl rfl rfl rfl trivial ?_
      obtain ⟨q7, hq, h⟩ := bnd_some h
      refine v_call hC [(16, 464), (17, 465)] rfl rfl rfl rfl Try.call71 (laws_toSource_ac hq) rfl (by decide) trivial rfl (.inl rfl) rfl ?_
      obtain ⟨q8, hq, h⟩ := bnd_some h
      refine v_call hC [] rfl rfl rfl rfl Try.call35 (laws_eqSource_ac hq) rfl (by decide) trivial rfl (.inr ⟨rfl, trivial⟩) rfl ?_
      refine v_op hT hC rfl rfl rfl rfl trivial ?_
      refine Vc.nil ⟨by kernel_rfl, ?_⟩
      rcases sel_some h with ⟨hb3, h⟩ | ⟨hb3, h⟩
      · refine s_true rfl hb3 ?_
        refine s_reg ?_
        refine v_op hT hC rfl rfl rfl rfl trivial ?_
        refine Vc.nil ?_
        refine aw_ret ?_
        refine t_ret ?_
        injection h with h
        subst h
        exact ends (Weak.refl _) rfl trivial
      · refine s_false rfl hb3 ?_
        refine aw_skip ?_
        refine t_norm ?_
        refine s_reg ?_
        refine v_op hT hC rfl rfl rfl rfl trivial ?_
        refine Vc.nil ?_
        refine s_reg ?_
        iterate 2 refine v_op hT hC rfl rfl rfl rfl trivial ?_
        obtain ⟨q9, hq, h⟩ := bnd_some h
        refine v_call hC [(2, 320), (3, 321)] rfl rfl rfl rfl Try.call36 (laws_markSource_ac hq) rfl (by decide) ⟨rfl, rfl, trivial⟩ rfl (.inl rfl) rfl ?_
        refine v_op hT hC rfl rfl rfl rfl trivial ?_
        refine Vc.nil ?_
        refine s_in ?_
        refine live [1, 4, 6, 7] [16, 288, 352] (s' := [_, _, _, _]) (o' := [_, _, _]) rfl rfl ?_
        obtain ⟨v10, h1, h⟩ := bnd_some h
        refine aw_to ([(42, .sv (.bool v10)), (7, .any)], []) ?_ ?_
        · have h := h1
          refine aw_region ?_
          iterate 3 refine v_op hT hC rfl rfl rfl rfl trivial ?_
          rcases sel_some h with ⟨hb4, h⟩ | ⟨hb4, h⟩
          · refine v_off hC rfl rfl rfl rfl hb4 rfl rfl ?_
            refine v_off hC rfl rfl rfl rfl hb4 rfl rfl ?_
            refine v_off hC rfl rfl rfl rfl hb4 rfl rfl ?_
            refine v_off hC rfl rfl rfl rfl hb4 rfl rfl ?_
            refine v_pick hC rfl rfl rfl (b := true) hb4 rfl rfl rfl trivial ?_
            refine Vc.nil ?_
            injection h with h
            subst h
            refine m_norm ?_
            apply w_conv hC []
            · repeat' first | exact CO.nil | apply CO.gone | apply CO.row rfl rfl | apply CO.box rfl rfl | decide
            · rfl
            · decide
            · rfl
          · iterate 2 refine v_on hT hC rfl rfl rfl rfl hb4 rfl rfl rfl trivial ?_
            obtain ⟨q11, hq, h⟩ := bnd_some h
            refine v_call_on hC [] rfl rfl rfl rfl hb4 rfl rfl rfl Try.call42 (laws_eqStringS_ac hq) rfl (by decide) trivial rfl (.inr ⟨rfl, trivial⟩) rfl ?_
            refine v_on hT hC rfl rfl rfl rfl hb4 rfl rfl rfl trivial ?_
            refine v_pick hC rfl rfl rfl (b := false) hb4 rfl rfl rfl trivial ?_
            refine Vc.nil ?_
            injection h with h
            subst h
            refine m_norm ?_
            apply w_conv hC []
            · repeat' first | exact CO.nil | apply CO.gone | apply CO.row rfl rfl | apply CO.box rfl rfl | decide
            · rfl
            · decide
            · rfl
        rcases sel_some h with ⟨hb5, h⟩ | ⟨hb5, h⟩
        · refine s_true rfl hb5 ?_
          refine s_reg ?_
          refine v_op hT hC rfl rfl rfl rfl trivial ?_
          refine Vc.nil ?_
          refine aw_ret ?_
          refine t_ret ?_
          injection h with h
          subst h
          exact ends (Weak.refl _) rfl trivial
        · refine s_false rfl hb5 ?_
          refine aw_skip ?_
          refine t_norm ?_
          refine s_reg ?_
          refine v_op hT hC rfl rfl rfl rfl trivial ?_
          refine Vc.nil ?_
          refine s_reg ?_
          iterate 2 refine v_op hT hC rfl rfl rfl rfl trivial ?_
          obtain ⟨q12, hq, h⟩ := bnd_some h
          refine v_call hC [(0, 352)] rfl rfl rfl rfl Try.call45 (laws_markStringS_ac hq) rfl (by decide) ⟨rfl, trivial⟩ rfl (.inl rfl) rfl ?_
          refine v_op hT hC rfl rfl rfl rfl trivial ?_
          refine Vc.nil ?_
          refine s_reg ?_
          refine v_op hT hC rfl rfl rfl rfl trivial ?_
          refine Vc.nil ?_
          refine s_reg ?_
          iterate 2 refine v_op hT hC rfl rfl rfl rfl trivial ?_
          obtain ⟨q13, hq, h⟩ := bnd_some h
          refine v_call hC [] rfl rfl rfl rfl Try.call46 (laws_heldStringS_ac hq) rfl (by decide) trivial rfl (.inr ⟨rfl, trivial⟩) rfl ?_
          refine v_op hT hC rfl rfl rfl rfl trivial ?_
          refine Vc.nil ?_
          refine s_in ?_
          refine s_reg ?_
          iterate 2 refine v_op hT hC rfl rfl rfl rfl trivial ?_
          refine Vc.nil ?_
          rcases sel_some h with ⟨hb6, h⟩ | ⟨hb6, h⟩
          · refine s_true rfl hb6 ?_
            refine s_reg ?_
            refine v_op hT hC rfl rfl rfl rfl trivial ?_
            refine Vc.nil ?_
            refine aw_ret ?_
            refine t_ret ?_
            injection h with h
            subst h
            exact ends (Weak.refl _) rfl trivial
          · refine s_false rfl hb6 ?_
            refine aw_skip ?_
            refine t_norm ?_
            refine s_in ?_
            refine s_reg ?_
            iterate 3 refine v_op hT hC rfl rfl rfl rfl trivial ?_
            refine Vc.nil ?_
            rcases sel_some h with ⟨hb7, h⟩ | ⟨hb7, h⟩
            · refine s_true rfl hb7 ?_
              refine s_reg ?_
              refine v_op hT hC rfl rfl rfl rfl trivial ?_
              refine Vc.nil ?_
              refine aw_ret ?_
              refine t_ret ?_
              injection h with h
              subst h
              exact ends (Weak.refl _) rfl trivial
            · refine s_false rfl hb7 ?_
              refine aw_skip ?_
              refine t_norm ?_
              refine s_reg ?_
              refine v_op hT hC rfl rfl rfl rfl trivial ?_
              obtain ⟨q14, hq, h⟩ := bnd_some h
              refine v_call hC [(16, 880), (17, 881)] rfl rfl rfl rfl Try.call71 (laws_toSource_ac hq) rfl (by decide) trivial rfl (.inl rfl) rfl ?_
              obtain ⟨q15, hq, h⟩ := bnd_some h
              refine v_call hC [(16, 896)] rfl rfl rfl rfl Try.call72 (impl_SourceSets_ac hq) rfl (by decide) trivial rfl (.inr ⟨rfl, ⟨fun _ => rfl, trivial⟩⟩) rfl ?_
              refine v_op hT hC rfl rfl rfl rfl trivial ?_
              refine Vc.nil ?_
              refine s_in ?_
              refine s_reg ?_
              iterate 2 refine v_op hT hC rfl rfl rfl rfl trivial ?_
              obtain ⟨q16, hq, h⟩ := bnd_some h
              refine v_call hC [] rfl rfl rfl rfl Try.call42 (laws_eqStringS_ac hq) rfl (by decide) trivial rfl (.inr ⟨rfl, trivial⟩) rfl ?_
              refine v_op hT hC rfl rfl rfl rfl trivial ?_
              refine Vc.nil ?_
              rcases sel_some h with ⟨hb8, h⟩ | ⟨hb8, h⟩
              · refine s_true rfl hb8 ?_
                refine s_reg ?_
                refine v_op hT hC rfl rfl rfl rfl trivial ?_
                refine Vc.nil ?_
                refine aw_ret ?_
                refine t_ret ?_
                injection h with h
                subst h
                exact ends (Weak.refl _) rfl trivial
              · refine s_false rfl hb8 ?_
                refine aw_skip ?_
                refine t_norm ?_
                refine s_reg ?_
                refine v_op hT hC rfl rfl rfl rfl trivial ?_
                refine Vc.nil ?_
                refine s_reg ?_
                iterate 2 refine v_op hT hC rfl rfl rfl rfl trivial ?_
                obtain ⟨q17, hq, h⟩ := bnd_some h
                refine v_call hC [] rfl rfl rfl rfl Try.call46 (laws_heldStringS_ac hq) rfl (by decide) trivial rfl (.inr ⟨rfl, trivial⟩) rfl ?_
                refine v_op hT hC rfl rfl rfl rfl trivial ?_
                refine Vc.nil ?_
                refine s_in ?_
                refine s_reg ?_
                iterate 2 refine v_op hT hC rfl rfl rfl rfl trivial ?_
                refine Vc.nil ?_
                rcases sel_some h with ⟨hb9, h⟩ | ⟨hb9, h⟩
                · refine s_true rfl hb9 ?_
                  refine s_reg ?_
                  refine v_op hT hC rfl rfl rfl rfl trivial ?_
                  refine Vc.nil ?_
                  refine aw_ret ?_
                  refine t_ret ?_
                  injection h with h
                  subst h
                  exact ends (Weak.refl _) rfl trivial
                · refine s_false rfl hb9 ?_
                  refine aw_skip ?_
                  refine t_norm ?_
                  refine s_in ?_
                  refine s_reg ?_
                  iterate 3 refine v_op hT hC rfl rfl rfl rfl trivial ?_
                  refine Vc.nil ?_
                  rcases sel_some h with ⟨hb10, h⟩ | ⟨hb10, h⟩
                  · refine s_true rfl hb10 ?_
                    refine s_reg ?_
                    refine v_op hT hC rfl rfl rfl rfl trivial ?_
                    refine Vc.nil ?_
                    refine aw_ret ?_
                    refine t_ret ?_
                    injection h with h
                    subst h
                    exact ends (Weak.refl _) rfl trivial
                  · refine s_false rfl hb10 ?_
                    refine aw_skip ?_
                    refine t_norm ?_
                    refine s_reg ?_
                    refine v_op hT hC rfl rfl rfl rfl trivial ?_
                    refine Vc.nil ?_
                    refine aw_ret ?_
                    injection h with h
                    subst h
                    exact ends (Weak.refl _) rfl trivial
end
end Go.Proofs.Ytplmeeookgefnaa.A
