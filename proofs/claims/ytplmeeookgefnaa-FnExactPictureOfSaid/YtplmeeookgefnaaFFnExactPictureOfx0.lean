/- Contracts of the functions that the law FnExactPictureOf reaches, part 0: each comes to what its pure function tells. Written by a program of this session. Conditions: as each statement tells. -/
import Derived.Test.YtplmeeookgefnaaBFnExactPictureOf
namespace Go.Proofs.Ytplmeeookgefnaa.A
open Go Go.Proofs Go.Proofs.YtplmeeookgefnaaAL Go.RowKit
set_option linter.unusedVariables false
set_option linter.unusedSimpArgs false
set_option maxRecDepth 100000
set_option maxHeartbeats 2000000
noncomputable section
def impl_within_res (r : Bool) : AV := .sv (.bool r)
def impl_within_obs (r : Bool) : Objs := []
theorem impl_within_ac {p0 : Int} {p1 : Int} {p2 : Int} {r : Bool} (h : impl_within p0 p1 p2 = some r) : AC Try.prog 102 [.sv (.int .i64 p0), .sv (.int .i64 p1), .sv (.int .i64 p2)] [] (impl_within_res r) (impl_within_obs r) := by
  refine ac_of_body hT Try.func102 rfl fun C hC => ?_
  unfold impl_within at h
  refine s_reg ?_
  refine v_op hT hC rfl rfl rfl rfl trivial ?_
  refine Vc.nil ?_
  refine live [0, 1, 2, 6] [] (s' := [_, _, _, _]) (o' := []) rfl rfl ?_
  obtain ⟨v1, h1, h⟩ := bnd_some h
  refine aw_to ([(6, .sv (.bool v1)), (0, .any), (1, .any), (2, .any)], []) ?_ ?_
  · have h := h1
    refine aw_region ?_
    iterate 4 refine v_op hT hC rfl rfl rfl rfl trivial ?_
    rcases sel_some h with ⟨hb1, h⟩ | ⟨hb1, h⟩
    · iterate 3 refine v_on hT hC rfl rfl rfl rfl hb1 rfl rfl rfl trivial ?_
      refine v_pick hC rfl rfl rfl (b := true) hb1 rfl rfl rfl trivial ?_
      refine v_op hT hC rfl rfl rfl rfl trivial ?_
      refine Vc.nil ?_
      injection h with h
      subst h
      refine m_norm ?_
      apply w_conv hC []
      · repeat' first | exact CO.nil | apply CO.gone | apply CO.row rfl rfl | apply CO.box rfl rfl | decide
      · rfl
      · decide
      · rfl
    · refine v_off hC rfl rfl rfl rfl hb1 rfl rfl ?_
      refine v_off hC rfl rfl rfl rfl hb1 rfl rfl ?_
      refine v_off hC rfl rfl rfl rfl hb1 rfl rfl ?_
      refine v_pick hC rfl rfl rfl (b := false) hb1 rfl rfl rfl trivial ?_
      refine v_op hT hC rfl rfl rfl rfl trivial ?_
      refine Vc.nil ?_
      injection h with h
      subst h
      refine m_norm ?_
      apply w_conv hC []
      · repeat' first | exact CO.nil | apply CO.gone | apply CO.row rfl rfl | apply CO.box rfl rfl | decide
      · rfl
      · decide
      · rfl
  refine aw_ret ?_
  injection h with h
  subst h
  exact ends (Weak.refl _) rfl trivial
def spec_l01In_res (r : Bool) : AV := .sv (.bool r)
def spec_l01In_obs (r : Bool) : Objs := []
theorem spec_l01In_ac {p0 : Int} {p1 : Int} {p2 : Int} {r : Bool} (h : spec_l01In p0 p1 p2 = some r) : AC Try.prog 106 [.sv (.int .i64 p0), .sv (.int .i64 p1), .sv (.int .i64 p2)] [] (spec_l01In_res r) (spec_l01In_obs r) := by
  refine ac_of_body hT Try.func106 rfl fun C hC => ?_
  unfold spec_l01In at h
  refine s_reg ?_
  refine v_op hT hC rfl rfl rfl rfl trivial ?_
  refine Vc.nil ?_
  refine live [0, 1, 2, 6] [] (s' := [_, _, _, _]) (o' := []) rfl rfl ?_
  obtain ⟨v1, h1, h⟩ := bnd_some h
  refine aw_to ([(6, .sv (.bool v1)), (0, .any), (1, .any), (2, .any)], []) ?_ ?_
  · have h := h1
    refine aw_region ?_
    iterate 4 refine v_op hT hC rfl rfl rfl rfl trivial ?_
    rcases sel_some h with ⟨hb1, h⟩ | ⟨hb1, h⟩
    · iterate 3 refine v_on hT hC rfl rfl rfl rfl hb1 rfl rfl rfl trivial ?_
      refine v_pick hC rfl rfl rfl (b := true) hb1 rfl rfl rfl trivial ?_
      refine v_op hT hC rfl rfl rfl rfl trivial ?_
      refine Vc.nil ?_
      injection h with h
      subst h
      refine m_norm ?_
      apply w_conv hC []
      · repeat' first | exact CO.nil | apply CO.gone | apply CO.row rfl rfl | apply CO.box rfl rfl | decide
      · rfl
      · decide
      · rfl
    · refine v_off hC rfl rfl rfl rfl hb1 rfl rfl ?_
      refine v_off hC rfl rfl rfl rfl hb1 rfl rfl ?_
      refine v_off hC rfl rfl rfl rfl hb1 rfl rfl ?_
      refine v_pick hC rfl rfl rfl (b := false) hb1 rfl rfl rfl trivial ?_
      refine v_op hT hC rfl rfl rfl rfl trivial ?_
      refine Vc.nil ?_
      injection h with h
      subst h
      refine m_norm ?_
      apply w_conv hC []
      · repeat' first | exact CO.nil | apply CO.gone | apply CO.row rfl rfl | apply CO.box rfl rfl | decide
      · rfl
      · decide
      · rfl
  refine aw_ret ?_
  injection h with h
  subst h
  exact ends (Weak.refl _) rfl trivial
def laws_szPacket_res (r : Int) : AV := .sv (.int .i64 r)
def laws_szPacket_obs (r : Int) : Objs := []
theorem laws_szPacket_ac {p0 : Packet} {p1 : Int} {r : Int} (h : laws_szPacket p0 p1 = some r) : AC Try.prog 63 [.agg [.sv (.int .i64 p0.Seq), .sv (.bool p0.First), .sv (.bool p0.Last), .sv (.str p0.Bytes)], .sv (.int .i64 p1)] [] (laws_szPacket_res r) (laws_szPacket_obs r) := by
  refine ac_of_body hT Try.func63 rfl fun C hC => ?_
  unfold laws_szPacket at h
  refine s_reg ?_
  iterate 2 refine v_op hT hC rfl rfl rfl rfl trivial ?_
  refine Vc.nil ?_
  refine s_reg ?_
  iterate 6 refine v_op hT hC rfl rfl rfl rfl trivial ?_
  refine Vc.nil ?_
  refine s_in ?_
  refine s_reg ?_
  iterate 2 refine v_op hT hC rfl rfl rfl rfl trivial ?_
  refine Vc.nil ?_
  rcases sel_some h with ⟨hb1, h⟩ | ⟨hb1, h⟩
  · refine s_true rfl hb1 ?_
    refine s_reg ?_
    refine v_op hT hC rfl rfl rfl rfl trivial ?_
    refine Vc.nil ?_
    refine aw_ret ?_
    refine t_ret ?_
    injection h with h
    subst h
    exact ends (Weak.refl _) rfl trivial
  · refine s_false rfl hb1 ?_
    refine aw_skip ?_
    refine t_norm ?_
    refine s_reg ?_
    iterate 2 refine v_op hT hC rfl rfl rfl rfl trivial ?_
    refine Vc.nil ?_
    refine aw_ret ?_
    injection h with h
    subst h
    exact ends (Weak.refl _) rfl trivial
def laws_szPacketS_res (r : Int) : AV := .sv (.int .i64 r)
def laws_szPacketS_obs (r : Int) : Objs := []
theorem laws_szPacketS_ac {p0 : (List Packet)} {p1 : Int} {r : Int} (h : laws_szPacketS p0 p1 = some r) : AC Try.prog 38 [.sv (cPacket.sv p0), .sv (.int .i64 p1)] [] (laws_szPacketS_res r) (laws_szPacketS_obs r) := by
  refine ac_of_body hT Try.func38 rfl fun C hC => ?_
  unfold laws_szPacketS at h
  refine s_reg ?_
  refine v_op hT hC rfl rfl rfl rfl trivial ?_
  refine Vc.nil ?_
  refine s_reg ?_
  iterate 5 refine v_op hT hC rfl rfl rfl rfl trivial ?_
  refine Vc.nil ?_
  refine s_in ?_
  refine s_reg ?_
  iterate 2 refine v_op hT hC rfl rfl rfl rfl trivial ?_
  refine Vc.nil ?_
  rcases sel_some h with ⟨hb1, h⟩ | ⟨hb1, h⟩
  · refine s_true rfl hb1 ?_
    refine s_reg ?_
    refine v_op hT hC rfl rfl rfl rfl trivial ?_
    refine Vc.nil ?_
    refine aw_ret ?_
    refine t_ret ?_
    injection h with h
    subst h
    exact ends (Weak.refl _) rfl trivial
  · refine s_false rfl hb1 ?_
    refine aw_skip ?_
    refine t_norm ?_
    refine s_in ?_
    refine s_reg ?_
    refine v_op hT hC rfl rfl rfl rfl trivial ?_
    refine Vc.nil ?_
    refine live [0, 1, 5] [] (s' := [_, _, _]) (o' := []) rfl rfl ?_
    obtain ⟨o8, hl, h⟩ := bnd_some h
    refine s_loopR (fun v3 => ([(1, .sv (.int .i64 v3.1)), (5, .sv (.int .i64 v3.2))], [])) (fun v6 => ([(1, .sv (.int .i64 v6)), (0, .any), (5, .any)], [])) (fun r => EndsA C T Try.f38.results.toList (laws_szPacketS_res r) (laws_szPacketS_obs r)) hl ?_ ?_ ?_ ?_
    · try dsimp only
      apply w_conv hC []
      · repeat' first | exact CO.nil | apply CO.gone | apply CO.row rfl rfl | apply CO.box rfl rfl | decide
      · rfl
      · decide
      · rfl
    · intro v3 s hs
      have h := hs
      unfold laws_szPacketS_l2 at h
      refine s_in ?_
      refine s_reg ?_
      iterate 4 refine v_op hT hC rfl rfl rfl rfl trivial ?_
      refine Vc.nil ?_
      rcases sel_some h with ⟨hb6, h⟩ | ⟨hb6, h⟩
      · refine s_true rfl hb6 ?_
        refine aw_skip ?_
        refine t_norm ?_
        refine s_in ?_
        refine s_block ?_
        refine s_reg ?_
        iterate 2 refine v_op hT hC rfl rfl rfl rfl trivial ?_
        obtain ⟨hq, h⟩ := req_some h
        refine v_op hT hC rfl rfl rfl rfl hq ?_
        iterate 2 refine v_op hT hC rfl rfl rfl rfl trivial ?_
        obtain ⟨q7, hq, h⟩ := bnd_some h
        refine v_call hC [] rfl rfl rfl rfl Try.call63 (laws_szPacket_ac hq) rfl (by decide) trivial rfl (.inl rfl) rfl ?_
        refine v_op hT hC rfl rfl rfl rfl trivial ?_
        refine Vc.nil ?_
        refine s_reg ?_
        iterate 2 refine v_op hT hC rfl rfl rfl rfl trivial ?_
        refine Vc.nil ?_
        rcases sel_some h with ⟨hb7, h⟩ | ⟨hb7, h⟩
        · refine s_true rfl hb7 ?_
          refine s_reg ?_
          refine v_op hT hC rfl rfl rfl rfl trivial ?_
          refine Vc.nil ?_
          refine aw_ret ?_
          refine b_ret ?_
          refine t_ret ?_
          injection h with h
          subst h
          refine r_ret ?_
          refine o_ret ?_
          exact ends (Weak.refl _) rfl trivial
        · refine s_false rfl hb7 ?_
          refine aw_skip ?_
          refine b_norm ?_
          refine t_norm ?_
          refine aw_region ?_
          iterate 3 refine v_op hT hC rfl rfl rfl rfl trivial ?_
          refine Vc.nil ?_
          injection h with h
          subst h
          refine r_go ?_
          try dsimp only
          apply w_conv hC []
          · repeat' first | exact CO.nil | apply CO.gone | apply CO.row rfl rfl | apply CO.box rfl rfl | decide
          · rfl
          · decide
          · rfl
      · refine s_false rfl hb6 ?_
        refine aw_exit ?_
        refine t_exit ?_
        injection h with h
        subst h
        refine r_exit ?_
        refine o_both ?_
        apply w_conv hC []
        · repeat' first | exact CO.nil | apply CO.gone | apply CO.row rfl rfl | apply CO.box rfl rfl | decide
        · rfl
        · decide
        · rfl
    · intro v6 e
      subst e
      refine t_norm ?_
      refine s_reg ?_
      iterate 2 refine v_op hT hC rfl rfl rfl rfl trivial ?_
      refine Vc.nil ?_
      refine aw_ret ?_
      injection h with h
      subst h
      exact ends (Weak.refl _) rfl trivial
    · intro r' σ' e hE
      subst e
      injection h with h
      subst h
      refine t_ret ?_
      exact hE
def laws_toPacket_res (r : Packet) : AV := .agg [.sv (.int .i64 r.Seq), .sv (.bool r.First), .sv (.bool r.Last), .sv (.str r.Bytes)]
def laws_toPacket_obs (r : Packet) : Objs := []
theorem laws_toPacket_ac {p0 : Packet} {r : Packet} (h : laws_toPacket p0 = some r) : AC Try.prog 65 [.agg [.sv (.int .i64 p0.Seq), .sv (.bool p0.First), .sv (.bool p0.Last), .sv (.str p0.Bytes)]] [] (laws_toPacket_res r) (laws_toPacket_obs r) := by
  refine ac_of_body hT Try.func65 rfl fun C hC => ?_
  unfold laws_toPacket at h
  refine s_reg ?_
  iterate 2 refine v_op hT hC rfl rfl rfl rfl trivial ?_
  refine Vc.nil ?_
  refine s_reg ?_
  refine v_op hT hC rfl rfl rfl rfl trivial ?_
  refine Vc.nil ?_
  refine s_reg ?_
  iterate 4 refine v_op hT hC rfl rfl rfl rfl trivial ?_
  refine Vc.nil ?_
  refine s_reg ?_
  iterate 4 refine v_op hT hC rfl rfl rfl rfl trivial ?_
  refine Vc.nil ?_
  refine s_reg ?_
  iterate 4 refine v_op hT hC rfl rfl rfl rfl trivial ?_
  refine Vc.nil ?_
  refine s_reg ?_
  iterate 4 refine v_op hT hC rfl rfl rfl rfl trivial ?_
  refine Vc.nil ?_
  refine s_reg ?_
  iterate 2 refine v_op hT hC rfl rfl rfl rfl trivial ?_
  refine Vc.nil ?_
  refine aw_ret ?_
  injection h with h
  subst h
  exact ends (Weak.refl _) rfl trivial
def laws_toPacketS_res (r : (List Packet)) : AV := .own 16
def laws_toPacketS_obs (r : (List Packet)) : Objs := [(16, .row cPacket r)]
theorem laws_toPacketS_ac {p0 : (List Packet)} {r : (List Packet)} (h : laws_toPacketS p0 = some r) : AC Try.prog 40 [.sv (cPacket.sv p0)] [] (laws_toPacketS_res r) (laws_toPacketS_obs r) := by
  refine ac_of_body hT Try.func40 rfl fun C hC => ?_
  unfold laws_toPacketS at h
  refine s_reg ?_
  refine v_op hT hC rfl rfl rfl rfl trivial ?_
  refine Vc.nil ?_
  refine s_reg ?_
  iterate 2 refine v_op hT hC rfl rfl rfl rfl trivial ?_
  obtain ⟨hq, h⟩ := req_some h
  refine v_op hT hC rfl rfl rfl rfl ⟨hq.1, hq.2.1, hq.2.2, by decide⟩ ?_
  refine v_op hT hC rfl rfl rfl rfl trivial ?_
  refine Vc.nil ?_
  refine s_in ?_
  refine s_reg ?_
  refine v_op hT hC rfl rfl rfl rfl trivial ?_
  refine Vc.nil ?_
  refine live [0, 3, 4] [112] (s' := [_, _, _]) (o' := [_]) rfl rfl ?_
  obtain ⟨v8, hl, h⟩ := bnd_some h
  refine s_loop (fun v4 => ([(4, .sv (.int .i64 v4.1))], [(112, some (.row cPacket v4.2))])) (fun v8 => ([(0, .any), (4, .any)], [(112, some (.row cPacket v8))])) hl ?_ ?_ ?_
  · try dsimp only
    apply w_conv hC []
    · repeat' first | exact CO.nil | apply CO.gone | apply CO.row rfl rfl | apply CO.box rfl rfl | decide
    · rfl
    · decide
    · rfl
  · intro v4 s hs
    have h := hs
    unfold laws_toPacketS_l2 at h
    refine s_in ?_
    refine s_reg ?_
    iterate 4 refine v_op hT hC rfl rfl rfl rfl trivial ?_
    refine Vc.nil ?_
    rcases sel_some h with ⟨hb3, h⟩ | ⟨hb3, h⟩
    · refine s_true rfl hb3 ?_
      refine aw_skip ?_
      refine t_norm ?_
      refine s_in ?_
      refine s_block ?_
      refine aw_region ?_
      iterate 4 refine v_op hT hC rfl rfl rfl rfl trivial ?_
      obtain ⟨hq, h⟩ := req_some h
      refine v_op hT hC rfl rfl rfl rfl hq ?_
      refine v_op hT hC rfl rfl rfl rfl trivial ?_
      obtain ⟨q9, hq, h⟩ := bnd_some h
      refine v_call hC [] rfl rfl rfl rfl Try.call65 (laws_toPacket_ac hq) rfl (by decide) trivial rfl (.inl rfl) rfl ?_
      obtain ⟨hq, h⟩ := req_some h
      refine v_op hT hC rfl rfl rfl rfl hq ?_
      obtain ⟨hq, h⟩ := req_some h
      obtain ⟨s10, hs, h⟩ := bnd_some h
      injection hs with hs
      refine v_op hT hC rfl rfl rfl rfl hq ?_
      rw [hs]
      refine Vc.nil ?_
      refine b_norm ?_
      refine t_norm ?_
      refine aw_region ?_
      iterate 3 refine v_op hT hC rfl rfl rfl rfl trivial ?_
      refine Vc.nil ?_
      injection h with h
      subst h
      refine r_go ?_
      try dsimp only
      apply w_conv hC []
      · repeat' first | exact CO.nil | apply CO.gone | apply CO.row rfl rfl | apply CO.box rfl rfl | decide
      · rfl
      · decide
      · rfl
    · refine s_false rfl hb3 ?_
      refine aw_exit ?_
      refine t_exit ?_
      injection h with h
      subst h
      refine r_exit ?_
      refine o_out ?_
      apply w_conv hC []
      · repeat' first | exact CO.nil | apply CO.gone | apply CO.row rfl rfl | apply CO.box rfl rfl | decide
      · rfl
      · decide
      · rfl
  refine t_norm ?_
  refine s_reg ?_
  iterate 2 refine v_op hT hC rfl rfl rfl rfl trivial ?_
  refine Vc.nil ?_
  refine aw_ret ?_
  injection h with h
  subst h
  refine ends (τ := ⟨[(2, .own 16)], [(16, some (.row cPacket v8))]⟩) ?_ rfl ⟨rfl, trivial⟩
  apply w_conv hC [(16, 112)]
  · repeat' first | exact CO.nil | apply CO.gone | apply CO.row rfl rfl | apply CO.box rfl rfl | decide
  · rfl
  · decide
  · rfl
def spec_PacketOk_res (r : Bool) : AV := .sv (.bool r)
def spec_PacketOk_obs (r : Bool) : Objs := []
theorem spec_PacketOk_ac {p0 : Packet} {r : Bool} (h : spec_PacketOk p0 = some r) : AC Try.prog 124 [.agg [.sv (.int .i64 p0.Seq), .sv (.bool p0.First), .sv (.bool p0.Last), .sv (.str p0.Bytes)]] [] (spec_PacketOk_res r) (spec_PacketOk_obs r) := by
  refine ac_of_body hT Try.func124 rfl fun C hC => ?_
  unfold spec_PacketOk at h
  refine s_reg ?_
  iterate 2 refine v_op hT hC rfl rfl rfl rfl trivial ?_
  refine Vc.nil ?_
  refine live [1, 2] [16] (s' := [_, _]) (o' := [_]) rfl rfl ?_
  obtain ⟨v1, h1, h⟩ := bnd_some h
  refine aw_to ([(2, .sv (.bool v1)), (1, .any)], [(16, none)]) ?_ ?_
  · have h := h1
    refine aw_region ?_
    iterate 2 refine v_op hT hC rfl rfl rfl rfl trivial ?_
    obtain ⟨q2, hq, h⟩ := bnd_some h
    refine v_call hC [] rfl rfl rfl rfl Try.call106 (spec_l01In_ac hq) rfl (by decide) trivial rfl (.inl rfl) rfl ?_
    refine v_op hT hC rfl rfl rfl rfl trivial ?_
    rcases sel_some h with ⟨hb1, h⟩ | ⟨hb1, h⟩
    · iterate 3 refine v_on hT hC rfl rfl rfl rfl hb1 rfl rfl rfl trivial ?_
      obtain ⟨q3, hq, h⟩ := bnd_some h
      refine v_call_on hC [] rfl rfl rfl rfl hb1 rfl rfl rfl Try.call106 (spec_l01In_ac hq) rfl (by decide) trivial rfl (.inl rfl) rfl ?_
      refine v_pick hC rfl rfl rfl (b := true) hb1 rfl rfl rfl trivial ?_
      refine v_op hT hC rfl rfl rfl rfl trivial ?_
      refine Vc.nil ?_
      injection h with h
      subst h
      refine m_norm ?_
      apply w_conv hC []
      · repeat' first | exact CO.nil | apply CO.gone | apply CO.row rfl rfl | apply CO.box rfl rfl | decide
      · rfl
      · decide
      · rfl
    · refine v_off hC rfl rfl rfl rfl hb1 rfl rfl ?_
      refine v_off hC rfl rfl rfl rfl hb1 rfl rfl ?_
      refine v_off hC rfl rfl rfl rfl hb1 rfl rfl ?_
      refine v_off hC rfl rfl rfl rfl hb1 rfl rfl ?_
      refine v_pick hC rfl rfl rfl (b := false) hb1 rfl rfl rfl trivial ?_
      refine v_op hT hC rfl rfl rfl rfl trivial ?_
      refine Vc.nil ?_
      injection h with h
      subst h
      refine m_norm ?_
      apply w_conv hC []
      · repeat' first | exact CO.nil | apply CO.gone | apply CO.row rfl rfl | apply CO.box rfl rfl | decide
      · rfl
      · decide
      · rfl
  refine aw_ret ?_
  injection h with h
  subst h
  exact ends (Weak.refl _) rfl trivial
def spec_SeqPlus_res (r : Int) : AV := .sv (.int .i64 r)
def spec_SeqPlus_obs (r : Int) : Objs := []
theorem spec_SeqPlus_ac {p0 : Int} {p1 : Int} {r : Int} (h : spec_SeqPlus p0 p1 = some r) : AC Try.prog 125 [.sv (.int .i64 p0), .sv (.int .i64 p1)] [] (spec_SeqPlus_res r) (spec_SeqPlus_obs r) := by
  refine ac_of_body hT Try.func125 rfl fun C hC => ?_
  unfold spec_SeqPlus at h
  refine s_reg ?_
  refine v_op hT hC rfl rfl rfl rfl trivial ?_
  refine Vc.nil ?_
  refine s_in ?_
  refine live [0, 1] [] (s' := [_, _]) (o' := []) rfl rfl ?_
  obtain ⟨v1, h1, h⟩ := bnd_some h
  refine aw_to ([(12, .sv (.bool v1))], []) ?_ ?_
  · have h := h1
    refine aw_region ?_
    refine v_op hT hC rfl rfl rfl rfl trivial ?_
    obtain ⟨q2, hq, h⟩ := bnd_some h
    refine v_call hC [] rfl rfl rfl rfl Try.call106 (spec_l01In_ac hq) rfl (by decide) trivial rfl (.inl rfl) rfl ?_
    iterate 2 refine v_op hT hC rfl rfl rfl rfl trivial ?_
    rcases sel_some h with ⟨hb1, h⟩ | ⟨hb1, h⟩
    · refine v_on hT hC rfl rfl rfl rfl (congrArg Bool.not hb1) rfl rfl rfl trivial ?_
      obtain ⟨q3, hq, h⟩ := bnd_some h
      refine v_call_on hC [] rfl rfl rfl rfl (congrArg Bool.not hb1) rfl rfl rfl Try.call106 (spec_l01In_ac hq) rfl (by decide) trivial rfl (.inl rfl) rfl ?_
      refine v_on hT hC rfl rfl rfl rfl (congrArg Bool.not hb1) rfl rfl rfl trivial ?_
      refine v_pick hC rfl rfl rfl (b := false) (congrArg Bool.not hb1) rfl rfl rfl trivial ?_
      refine Vc.nil ?_
      injection h with h
      subst h
      refine m_norm ?_
      apply w_conv hC []
      · repeat' first | exact CO.nil | apply CO.gone | apply CO.row rfl rfl | apply CO.box rfl rfl | decide
      · rfl
      · decide
      · rfl
    · refine v_off hC rfl rfl rfl rfl (congrArg Bool.not hb1) rfl rfl ?_
      refine v_off hC rfl rfl rfl rfl (congrArg Bool.not hb1) rfl rfl ?_
      refine v_off hC rfl rfl rfl rfl (congrArg Bool.not hb1) rfl rfl ?_
      refine v_pick hC rfl rfl rfl (b := true) (congrArg Bool.not hb1) rfl rfl rfl trivial ?_
      refine Vc.nil ?_
      injection h with h
      subst h
      refine m_norm ?_
      apply w_conv hC []
      · repeat' first | exact CO.nil | apply CO.gone | apply CO.row rfl rfl | apply CO.box rfl rfl | decide
      · rfl
      · decide
      · rfl
  rcases sel_some h with ⟨hb2, h⟩ | ⟨hb2, h⟩
  · refine s_true rfl hb2 ?_
    refine s_reg ?_
    refine v_op hT hC rfl rfl rfl rfl trivial ?_
    refine Vc.nil ?_
    refine aw_ret ?_
    refine t_ret ?_
    injection h with h
    subst h
    exact ends (Weak.refl _) rfl trivial
  · refine s_false rfl hb2 ?_
    refine aw_skip ?_
    refine t_norm ?_
    refine s_reg ?_
    iterate 3 refine v_op hT hC rfl rfl rfl rfl trivial ?_
    obtain ⟨hq, h⟩ := req_some h
    refine v_op hT hC rfl rfl rfl rfl hq ?_
    refine v_op hT hC rfl rfl rfl rfl trivial ?_
    refine Vc.nil ?_
    refine aw_ret ?_
    injection h with h
    subst h
    exact ends (Weak.refl _) rfl trivial
def spec_l04Escaped_res (r : ByteArray) : AV := .sv (.str r)
def spec_l04Escaped_obs (r : ByteArray) : Objs := []
theorem spec_l04Escaped_ac {p0 : ByteArray} {r : ByteArray} (h : spec_l04Escaped p0 = some r) : AC Try.prog 299 [.sv (.str p0)] [] (spec_l04Escaped_res r) (spec_l04Escaped_obs r) := by
  refine ac_of_body hT Try.func299 rfl fun C hC => ?_
  unfold spec_l04Escaped at h
  refine s_reg ?_
  refine v_op hT hC rfl rfl rfl rfl trivial ?_
  refine Vc.nil ?_
  refine s_reg ?_
  iterate 2 refine v_op hT hC rfl rfl rfl rfl trivial ?_
  refine Vc.nil ?_
  refine s_in ?_
  refine s_reg ?_
  refine v_op hT hC rfl rfl rfl rfl trivial ?_
  refine Vc.nil ?_
  refine live [0, 3, 4] [96] (s' := [_, _, _]) (o' := [_]) rfl rfl ?_
  obtain ⟨v8, hl, h⟩ := bnd_some h
  refine s_loop (fun v4 => ([(4, .sv (.int .i64 v4.1))], [(96, some (.ints .u8 v4.2))])) (fun v8 => ([(0, .any), (4, .any)], [(96, some (.ints .u8 v8))])) hl ?_ ?_ ?_
  · try dsimp only
    apply w_conv hC []
    · repeat' first | exact CO.nil | apply CO.gone | apply CO.row rfl rfl | apply CO.box rfl rfl | decide
    · rfl
    · decide
    · rfl
  · intro v4 s hs
    have h := hs
    unfold spec_l04Escaped_l2 at h
    refine s_in ?_
    refine s_reg ?_
    iterate 4 refine v_op hT hC rfl rfl rfl rfl trivial ?_
    refine Vc.nil ?_
    rcases sel_some h with ⟨hb11, h⟩ | ⟨hb11, h⟩
    · refine s_true rfl hb11 ?_
      refine aw_skip ?_
      refine t_norm ?_
      refine s_in ?_
      refine s_block ?_
      refine s_reg ?_
      iterate 3 refine v_op hT hC rfl rfl rfl rfl trivial ?_
      refine Vc.nil ?_
      refine live [0, 3, 4, 5] [96] (s' := [_, _, _, _]) (o' := [_]) rfl rfl ?_
      obtain ⟨v9, h1, h⟩ := bnd_some h
      refine aw_to ([(5, .any)], [(96, some (.ints .u8 v9))]) ?_ ?_
      · have h := h1
        refine live [0, 3, 4, 5] [96] (s' := [_, _, _, _]) (o' := [_]) rfl rfl ?_
        obtain ⟨v10, h1, h⟩ := bnd_some h
        refine aw_to ([(38, .sv (.bool v10)), (5, .any)], []) ?_ ?_
        · have h := h1
          refine aw_region ?_
          iterate 3 refine v_op hT hC rfl rfl rfl rfl trivial ?_
          rcases sel_some h with ⟨hb12, h⟩ | ⟨hb12, h⟩
          · iterate 3 refine v_on hT hC rfl rfl rfl rfl hb12 rfl rfl rfl trivial ?_
            obtain ⟨hq, h⟩ := req_some h
            refine v_on hT hC rfl rfl rfl rfl hb12 rfl rfl rfl hq ?_
            obtain ⟨hq, h⟩ := req_some h
            refine v_on hT hC rfl rfl rfl rfl hb12 rfl rfl rfl hq ?_
            refine v_on hT hC rfl rfl rfl rfl hb12 rfl rfl rfl trivial ?_
            refine v_pick hC rfl rfl rfl (b := true) hb12 rfl rfl rfl trivial ?_
            refine v_op hT hC rfl rfl rfl rfl trivial ?_
            rcases sel_some h with ⟨hb13, h⟩ | ⟨hb13, h⟩
            · iterate 3 refine v_on hT hC rfl rfl rfl rfl hb13 rfl rfl rfl trivial ?_
              obtain ⟨hq, h⟩ := req_some h
              refine v_on hT hC rfl rfl rfl rfl hb13 rfl rfl rfl hq ?_
              obtain ⟨hq, h⟩ := req_some h
              refine v_on hT hC rfl rfl rfl rfl hb13 rfl rfl rfl hq ?_
              refine v_on hT hC rfl rfl rfl rfl hb13 rfl rfl rfl trivial ?_
              refine v_pick hC rfl rfl rfl (b := true) hb13 rfl rfl rfl trivial ?_
              refine v_op hT hC rfl rfl rfl rfl trivial ?_
              rcases sel_some h with ⟨hb14, h⟩ | ⟨hb14, h⟩
              · iterate 2 refine v_on hT hC rfl rfl rfl rfl hb14 rfl rfl rfl trivial ?_
                obtain ⟨hq, h⟩ := req_some h
                refine v_on hT hC rfl rfl rfl rfl hb14 rfl rfl rfl hq ?_
                refine v_on hT hC rfl rfl rfl rfl hb14 rfl rfl rfl trivial ?_
                refine v_pick hC rfl rfl rfl (b := true) hb14 rfl rfl rfl trivial ?_
                refine Vc.nil ?_
                injection h with h
                subst h
                refine m_norm ?_
                apply w_conv hC []
                · repeat' first | exact CO.nil | apply CO.gone | apply CO.row rfl rfl | apply CO.box rfl rfl | decide
                · rfl
                · decide
                · rfl
              · refine v_off hC rfl rfl rfl rfl hb14 rfl rfl ?_
                refine v_off hC rfl rfl rfl rfl hb14 rfl rfl ?_
                refine v_off hC rfl rfl rfl rfl hb14 rfl rfl ?_
                refine v_off hC rfl rfl rfl rfl hb14 rfl rfl ?_
                refine v_pick hC rfl rfl rfl (b := false) hb14 rfl rfl rfl trivial ?_
                refine Vc.nil ?_
                injection h with h
                subst h
                refine m_norm ?_
                apply w_conv hC []
                · repeat' first | exact CO.nil | apply CO.gone | apply CO.row rfl rfl | apply CO.box rfl rfl | decide
                · rfl
                · decide
                · rfl
            · refine v_off hC rfl rfl rfl rfl hb13 rfl rfl ?_
              refine v_off hC rfl rfl rfl rfl hb13 rfl rfl ?_
              refine v_off hC rfl rfl rfl rfl hb13 rfl rfl ?_
              refine v_off hC rfl rfl rfl rfl hb13 rfl rfl ?_
              refine v_off hC rfl rfl rfl rfl hb13 rfl rfl ?_
              refine v_off hC rfl rfl rfl rfl hb13 rfl rfl ?_
              refine v_pick hC rfl rfl rfl (b := false) hb13 rfl rfl rfl trivial ?_
              refine v_op hT hC rfl rfl rfl rfl trivial ?_
              refine v_off hC rfl rfl rfl rfl rfl rfl rfl ?_
              refine v_off hC rfl rfl rfl rfl rfl rfl rfl ?_
              refine v_off hC rfl rfl rfl rfl rfl rfl rfl ?_
              refine v_off hC rfl rfl rfl rfl rfl rfl rfl ?_
              refine v_op hT hC rfl rfl rfl rfl trivial ?_
              refine Vc.nil ?_
              injection h with h
              subst h
              refine m_norm ?_
              apply w_conv hC []
              · repeat' first | exact CO.nil | apply CO.gone | apply CO.row rfl rfl | apply CO.box rfl rfl | decide
              · rfl
              · decide
              · rfl
          · refine v_off hC rfl rfl rfl rfl hb12 rfl rfl ?_
            refine v_off hC rfl rfl rfl rfl hb12 rfl rfl ?_
            refine v_off hC rfl rfl rfl rfl hb12 rfl rfl ?_
            refine v_off hC rfl rfl rfl rfl hb12 rfl rfl ?_
            refine v_off hC rfl rfl rfl rfl hb12 rfl rfl ?_
            refine v_off hC rfl rfl rfl rfl hb12 rfl rfl ?_
            refine v_pick hC rfl rfl rfl (b := false) hb12 rfl rfl rfl trivial ?_
            refine v_op hT hC rfl rfl rfl rfl trivial ?_
            refine v_off hC rfl rfl rfl rfl rfl rfl rfl ?_
            refine v_off hC rfl rfl rfl rfl rfl rfl rfl ?_
            refine v_off hC rfl rfl rfl rfl rfl rfl rfl ?_
            refine v_off hC rfl rfl rfl rfl rfl rfl rfl ?_
            refine v_off hC rfl rfl rfl rfl rfl rfl rfl ?_
            refine v_off hC rfl rfl rfl rfl rfl rfl rfl ?_
            iterate 2 refine v_op hT hC rfl rfl rfl rfl trivial ?_
            refine v_off hC rfl rfl rfl rfl rfl rfl rfl ?_
            refine v_off hC rfl rfl rfl rfl rfl rfl rfl ?_
            refine v_off hC rfl rfl rfl rfl rfl rfl rfl ?_
            refine v_off hC rfl rfl rfl rfl rfl rfl rfl ?_
            refine v_op hT hC rfl rfl rfl rfl trivial ?_
            refine Vc.nil ?_
            injection h with h
            subst h
            refine m_norm ?_
            apply w_conv hC []
            · repeat' first | exact CO.nil | apply CO.gone | apply CO.row rfl rfl | apply CO.box rfl rfl | decide
            · rfl
            · decide
            · rfl
        rcases sel_some h with ⟨hb15, h⟩ | ⟨hb15, h⟩
        · refine s_true rfl hb15 ?_
          refine aw_region ?_
          iterate 2 refine v_op hT hC rfl rfl rfl rfl trivial ?_
          obtain ⟨hq, h⟩ := req_some h
          refine v_op hT hC rfl rfl rfl rfl ⟨trivial, hq⟩ ?_
          refine v_op hT hC rfl rfl rfl rfl trivial ?_
          refine Vc.nil ?_
          injection h with h
          subst h
          refine m_norm ?_
          apply w_conv hC [(96, 656)]
          · repeat' first | exact CO.nil | apply CO.gone | apply CO.row rfl rfl | apply CO.box rfl rfl | decide
          · rfl
          · decide
          · rfl
        · refine s_false rfl hb15 ?_
          refine aw_skip ?_
          injection h with h
          subst h
          refine m_norm ?_
          apply w_conv hC []
          · repeat' first | exact CO.nil | apply CO.gone | apply CO.row rfl rfl | apply CO.box rfl rfl | decide
          · rfl
          · decide
          · rfl
      refine aw_region ?_
      iterate 3 refine v_op hT hC rfl rfl rfl rfl trivial ?_
      obtain ⟨hq, h⟩ := req_some h
      refine v_op hT hC rfl rfl rfl rfl hq ?_
      refine v_op hT hC rfl rfl rfl rfl trivial ?_
      obtain ⟨hq, h⟩ := req_some h
      refine v_op hT hC rfl rfl rfl rfl ⟨trivial, hq⟩ ?_
      refine v_op hT hC rfl rfl rfl rfl trivial ?_
      refine Vc.nil ?_
      refine b_norm ?_
      refine t_norm ?_
      refine aw_region ?_
      iterate 3 refine v_op hT hC rfl rfl rfl rfl trivial ?_
      refine Vc.nil ?_
      injection h with h
      subst h
      refine r_go ?_
      try dsimp only
      apply w_conv hC [(96, 752)]
      · repeat' first | exact CO.nil | apply CO.gone | apply CO.row rfl rfl | apply CO.box rfl rfl | decide
      · rfl
      · decide
      · rfl
    · refine s_false rfl hb11 ?_
      refine aw_exit ?_
      refine t_exit ?_
      injection h with h
      subst h
      refine r_exit ?_
      refine o_out ?_
      apply w_conv hC []
      · repeat' first | exact CO.nil | apply CO.gone | apply CO.row rfl rfl | apply CO.box rfl rfl | decide
      · rfl
      · decide
      · rfl
  refine t_norm ?_
  refine s_reg ?_
  iterate 3 refine v_op hT hC rfl rfl rfl rfl trivial ?_
  refine Vc.nil ?_
  refine aw_ret ?_
  injection h with h
  subst h
  exact ends (Weak.refl _) rfl trivial
def spec_Escaped_res (r : (ByteArray × Bool)) : AV := .tup [.sv (.str r.1), .sv (.bool r.2)]
def spec_Escaped_obs (r : (ByteArray × Bool)) : Objs := []
theorem spec_Escaped_ac {p0 : ByteArray} {r : (ByteArray × Bool)} (h : spec_Escaped p0 = some r) : AC Try.prog 269 [.sv (.str p0)] [] (spec_Escaped_res r) (spec_Escaped_obs r) := by
  refine ac_of_body hT Try.func269 rfl fun C hC => ?_
  unfold spec_Escaped at h
  refine s_reg ?_
  iterate 2 refine v_op hT hC rfl rfl rfl rfl trivial ?_
  refine Vc.nil ?_
  refine s_in ?_
  refine live [0] [] (s' := [_]) (o' := []) rfl rfl ?_
  obtain ⟨v1, h1, h⟩ := bnd_some h
  refine aw_to ([(19, .sv (.bool v1))], []) ?_ ?_
  · have h := h1
    refine aw_region ?_
    iterate 4 refine v_op hT hC rfl rfl rfl rfl trivial ?_
    rcases sel_some h with ⟨hb1, h⟩ | ⟨hb1, h⟩
    · refine v_off hC rfl rfl rfl rfl hb1 rfl rfl ?_
      refine v_off hC rfl rfl rfl rfl hb1 rfl rfl ?_
      refine v_off hC rfl rfl rfl rfl hb1 rfl rfl ?_
      refine v_pick hC rfl rfl rfl (b := true) hb1 rfl rfl rfl trivial ?_
      refine v_op hT hC rfl rfl rfl rfl trivial ?_
      refine v_off hC rfl rfl rfl rfl rfl rfl rfl ?_
      refine v_off hC rfl rfl rfl rfl rfl rfl rfl ?_
      refine v_off hC rfl rfl rfl rfl rfl rfl rfl ?_
      refine v_off hC rfl rfl rfl rfl rfl rfl rfl ?_
      refine v_off hC rfl rfl rfl rfl rfl rfl rfl ?_
      refine v_off hC rfl rfl rfl rfl rfl rfl rfl ?_
      refine v_op hT hC rfl rfl rfl rfl trivial ?_
      refine Vc.nil ?_
      injection h with h
      subst h
      refine m_norm ?_
      apply w_conv hC []
      · repeat' first | exact CO.nil | apply CO.gone | apply CO.row rfl rfl | apply CO.box rfl rfl | decide
      · rfl
      · decide
      · rfl
    · iterate 3 refine v_on hT hC rfl rfl rfl rfl hb1 rfl rfl rfl trivial ?_
      refine v_pick hC rfl rfl rfl (b := false) hb1 rfl rfl rfl trivial ?_
      refine v_op hT hC rfl rfl rfl rfl trivial ?_
      rcases sel_some h with ⟨hb2, h⟩ | ⟨hb2, h⟩
      · refine v_off hC rfl rfl rfl rfl hb2 rfl rfl ?_
        refine v_off hC rfl rfl rfl rfl hb2 rfl rfl ?_
        refine v_off hC rfl rfl rfl rfl hb2 rfl rfl ?_
        refine v_off hC rfl rfl rfl rfl hb2 rfl rfl ?_
        refine v_off hC rfl rfl rfl rfl hb2 rfl rfl ?_
        refine v_off hC rfl rfl rfl rfl hb2 rfl rfl ?_
        refine v_pick hC rfl rfl rfl (b := true) hb2 rfl rfl rfl trivial ?_
        refine Vc.nil ?_
        injection h with h
        subst h
        refine m_norm ?_
        apply w_conv hC []
        · repeat' first | exact CO.nil | apply CO.gone | apply CO.row rfl rfl | apply CO.box rfl rfl | decide
        · rfl
        · decide
        · rfl
      · iterate 4 refine v_on hT hC rfl rfl rfl rfl hb2 rfl rfl rfl trivial ?_
        obtain ⟨hq, h⟩ := req_some h
        refine v_on hT hC rfl rfl rfl rfl hb2 rfl rfl rfl hq ?_
        refine v_on hT hC rfl rfl rfl rfl hb2 rfl rfl rfl trivial ?_
        refine v_pick hC rfl rfl rfl (b := false) hb2 rfl rfl rfl trivial ?_
        refine Vc.nil ?_
        injection h with h
        subst h
        refine m_norm ?_
        apply w_conv hC []
        · repeat' first | exact CO.nil | apply CO.gone | apply CO.row rfl rfl | apply CO.box rfl rfl | decide
        · rfl
        · decide
        · rfl
  rcases sel_some h with ⟨hb3, h⟩ | ⟨hb3, h⟩
  · refine s_true rfl hb3 ?_
    refine s_reg ?_
    iterate 2 refine v_op hT hC rfl rfl rfl rfl trivial ?_
    refine Vc.nil ?_
    refine aw_ret ?_
    refine t_ret ?_
    injection h with h
    subst h
    exact ends (Weak.refl _) rfl trivial
  · refine s_false rfl hb3 ?_
    refine aw_skip ?_
    refine t_norm ?_
    refine s_reg ?_
    refine v_op hT hC rfl rfl rfl rfl trivial ?_
    obtain ⟨q2, hq, h⟩ := bnd_some h
    refine v_call hC [] rfl rfl rfl rfl Try.call299 (spec_l04Escaped_ac hq) rfl (by decide) trivial rfl (.inl rfl) rfl ?_
    iterate 2 refine v_op hT hC rfl rfl rfl rfl trivial ?_
    refine Vc.nil ?_
    refine aw_ret ?_
    injection h with h
    subst h
    exact ends (Weak.refl _) rfl trivial
def spec_Unescaped_res (r : (ByteArray × Bool)) : AV := .tup [.sv (.str r.1), .sv (.bool r.2)]
def spec_Unescaped_obs (r : (ByteArray × Bool)) : Objs := []
theorem spec_Unescaped_ac {p0 : ByteArray} {r : (ByteArray × Bool)} (h : spec_Unescaped p0 = some r) : AC Try.prog 268 [.sv (.str p0)] [] (spec_Unescaped_res r) (spec_Unescaped_obs r) := by
  refine ac_of_body hT Try.func268 rfl fun C hC => ?_
  unfold spec_Unescaped at h
  refine s_reg ?_
  iterate 2 refine v_op hT hC rfl rfl rfl rfl trivial ?_
  refine Vc.nil ?_
  refine s_in ?_
  refine s_reg ?_
  iterate 3 refine v_op hT hC rfl rfl rfl rfl trivial ?_
  refine Vc.nil ?_
  rcases sel_some h with ⟨hb1, h⟩ | ⟨hb1, h⟩
  · refine s_true rfl hb1 ?_
    refine s_reg ?_
    iterate 2 refine v_op hT hC rfl rfl rfl rfl trivial ?_
    refine Vc.nil ?_
    refine aw_ret ?_
    refine t_ret ?_
    injection h with h
    subst h
    exact ends (Weak.refl _) rfl trivial
  · refine s_false rfl hb1 ?_
    refine aw_skip ?_
    refine t_norm ?_
    refine s_reg ?_
    iterate 2 refine v_op hT hC rfl rfl rfl rfl trivial ?_
    refine Vc.nil ?_
    refine s_in ?_
    refine s_reg ?_
    refine v_op hT hC rfl rfl rfl rfl trivial ?_
    refine Vc.nil ?_
    refine live [0, 4, 5] [176] (s' := [_, _, _]) (o' := [_]) rfl rfl ?_
    obtain ⟨v8, hl, h⟩ := bnd_some h
    refine s_loop (fun v4 => ([(5, .sv (.int .i64 v4.1))], [(176, some (.ints .u8 v4.2))])) (fun v8 => ([(5, .any)], [(176, some (.ints .u8 v8))])) hl ?_ ?_ ?_
    · try dsimp only
      apply w_conv hC []
      · repeat' first | exact CO.nil | apply CO.gone | apply CO.row rfl rfl | apply CO.box rfl rfl | decide
      · rfl
      · decide
      · rfl
    · intro v4 s hs
      have h := hs
      unfold spec_Unescaped_l2 at h
      refine s_in ?_
      refine s_reg ?_
      iterate 4 refine v_op hT hC rfl rfl rfl rfl trivial ?_
      refine Vc.nil ?_
      rcases sel_some h with ⟨hb12, h⟩ | ⟨hb12, h⟩
      · refine s_true rfl hb12 ?_
        refine aw_skip ?_
        refine t_norm ?_
        refine live [0, 4, 5] [176] (s' := [_, _, _]) (o' := [_]) rfl rfl ?_
        obtain ⟨v9, h1, h⟩ := bnd_some h
        refine aw_to ([], [(176, some (.ints .u8 v9))]) ?_ ?_
        · have h := h1
          refine s_block ?_
          refine s_in ?_
          refine live [0, 4, 5] [176] (s' := [_, _, _]) (o' := [_]) rfl rfl ?_
          obtain ⟨v10, h1, h⟩ := bnd_some h
          refine aw_to ([(39, .sv (.bool v10))], []) ?_ ?_
          · have h := h1
            refine aw_region ?_
            iterate 3 refine v_op hT hC rfl rfl rfl rfl trivial ?_
            rcases sel_some h with ⟨hb13, h⟩ | ⟨hb13, h⟩
            · iterate 2 refine v_on hT hC rfl rfl rfl rfl hb13 rfl rfl rfl trivial ?_
              obtain ⟨hq, h⟩ := req_some h
              refine v_on hT hC rfl rfl rfl rfl hb13 rfl rfl rfl hq ?_
              refine v_on hT hC rfl rfl rfl rfl hb13 rfl rfl rfl trivial ?_
              refine v_pick hC rfl rfl rfl (b := true) hb13 rfl rfl rfl trivial ?_
              refine v_op hT hC rfl rfl rfl rfl trivial ?_
              rcases sel_some h with ⟨hb14, h⟩ | ⟨hb14, h⟩
              · iterate 3 refine v_on hT hC rfl rfl rfl rfl hb14 rfl rfl rfl trivial ?_
                obtain ⟨hq, h⟩ := req_some h
                refine v_on hT hC rfl rfl rfl rfl hb14 rfl rfl rfl hq ?_
                refine v_on hT hC rfl rfl rfl rfl hb14 rfl rfl rfl trivial ?_
                refine v_pick hC rfl rfl rfl (b := true) hb14 rfl rfl rfl trivial ?_
                refine v_op hT hC rfl rfl rfl rfl trivial ?_
                rcases sel_some h with ⟨hb15, h⟩ | ⟨hb15, h⟩
                · iterate 3 refine v_on hT hC rfl rfl rfl rfl hb15 rfl rfl rfl trivial ?_
                  obtain ⟨hq, h⟩ := req_some h
                  refine v_on hT hC rfl rfl rfl rfl hb15 rfl rfl rfl hq ?_
                  refine v_on hT hC rfl rfl rfl rfl hb15 rfl rfl rfl trivial ?_
                  refine v_pick hC rfl rfl rfl (b := true) hb15 rfl rfl rfl trivial ?_
                  refine Vc.nil ?_
                  injection h with h
                  subst h
                  refine m_norm ?_
                  apply w_conv hC []
                  · repeat' first | exact CO.nil | apply CO.gone | apply CO.row rfl rfl | apply CO.box rfl rfl | decide
                  · rfl
                  · decide
                  · rfl
                · refine v_off hC rfl rfl rfl rfl hb15 rfl rfl ?_
                  refine v_off hC rfl rfl rfl rfl hb15 rfl rfl ?_
                  refine v_off hC rfl rfl rfl rfl hb15 rfl rfl ?_
                  refine v_off hC rfl rfl rfl rfl hb15 rfl rfl ?_
                  refine v_off hC rfl rfl rfl rfl hb15 rfl rfl ?_
                  refine v_pick hC rfl rfl rfl (b := false) hb15 rfl rfl rfl trivial ?_
                  refine Vc.nil ?_
                  injection h with h
                  subst h
                  refine m_norm ?_
                  apply w_conv hC []
                  · repeat' first | exact CO.nil | apply CO.gone | apply CO.row rfl rfl | apply CO.box rfl rfl | decide
                  · rfl
                  · decide
                  · rfl
              · refine v_off hC rfl rfl rfl rfl hb14 rfl rfl ?_
                refine v_off hC rfl rfl rfl rfl hb14 rfl rfl ?_
                refine v_off hC rfl rfl rfl rfl hb14 rfl rfl ?_
                refine v_off hC rfl rfl rfl rfl hb14 rfl rfl ?_
                refine v_off hC rfl rfl rfl rfl hb14 rfl rfl ?_
                refine v_pick hC rfl rfl rfl (b := false) hb14 rfl rfl rfl trivial ?_
                refine v_op hT hC rfl rfl rfl rfl trivial ?_
                refine v_off hC rfl rfl rfl rfl rfl rfl rfl ?_
                refine v_off hC rfl rfl rfl rfl rfl rfl rfl ?_
                refine v_off hC rfl rfl rfl rfl rfl rfl rfl ?_
                refine v_off hC rfl rfl rfl rfl rfl rfl rfl ?_
                refine v_off hC rfl rfl rfl rfl rfl rfl rfl ?_
                refine v_op hT hC rfl rfl rfl rfl trivial ?_
                refine Vc.nil ?_
                injection h with h
                subst h
                refine m_norm ?_
                apply w_conv hC []
                · repeat' first | exact CO.nil | apply CO.gone | apply CO.row rfl rfl | apply CO.box rfl rfl | decide
                · rfl
                · decide
                · rfl
            · refine v_off hC rfl rfl rfl rfl hb13 rfl rfl ?_
              refine v_off hC rfl rfl rfl rfl hb13 rfl rfl ?_
              refine v_off hC rfl rfl rfl rfl hb13 rfl rfl ?_
              refine v_off hC rfl rfl rfl rfl hb13 rfl rfl ?_
              refine v_pick hC rfl rfl rfl (b := false) hb13 rfl rfl rfl trivial ?_
              refine v_op hT hC rfl rfl rfl rfl trivial ?_
              refine v_off hC rfl rfl rfl rfl rfl rfl rfl ?_
              refine v_off hC rfl rfl rfl rfl rfl rfl rfl ?_
              refine v_off hC rfl rfl rfl rfl rfl rfl rfl ?_
              refine v_off hC rfl rfl rfl rfl rfl rfl rfl ?_
              refine v_off hC rfl rfl rfl rfl rfl rfl rfl ?_
              iterate 2 refine v_op hT hC rfl rfl rfl rfl trivial ?_
              refine v_off hC rfl rfl rfl rfl rfl rfl rfl ?_
              refine v_off hC rfl rfl rfl rfl rfl rfl rfl ?_
              refine v_off hC rfl rfl rfl rfl rfl rfl rfl ?_
              refine v_off hC rfl rfl rfl rfl rfl rfl rfl ?_
              refine v_off hC rfl rfl rfl rfl rfl rfl rfl ?_
              refine v_op hT hC rfl rfl rfl rfl trivial ?_
              refine Vc.nil ?_
              injection h with h
              subst h
              refine m_norm ?_
              apply w_conv hC []
              · repeat' first | exact CO.nil | apply CO.gone | apply CO.row rfl rfl | apply CO.box rfl rfl | decide
              · rfl
              · decide
              · rfl
          rcases sel_some h with ⟨hb16, h⟩ | ⟨hb16, h⟩
          · refine s_true rfl hb16 ?_
            refine aw_exit ?_
            refine t_exit ?_
            refine b_exit ?_
            injection h with h
            subst h
            refine m_norm ?_
            apply w_conv hC []
            · repeat' first | exact CO.nil | apply CO.gone | apply CO.row rfl rfl | apply CO.box rfl rfl | decide
            · rfl
            · decide
            · rfl
          · refine s_false rfl hb16 ?_
            refine aw_skip ?_
            refine t_norm ?_
            refine aw_region ?_
            iterate 3 refine v_op hT hC rfl rfl rfl rfl trivial ?_
            obtain ⟨hq, h⟩ := req_some h
            refine v_op hT hC rfl rfl rfl rfl hq ?_
            refine v_op hT hC rfl rfl rfl rfl trivial ?_
            obtain ⟨hq, h⟩ := req_some h
            refine v_op hT hC rfl rfl rfl rfl ⟨trivial, hq⟩ ?_
            refine v_op hT hC rfl rfl rfl rfl trivial ?_
            refine Vc.nil ?_
            refine b_norm ?_
            injection h with h
            subst h
            refine m_norm ?_
            apply w_conv hC [(176, 720)]
            · repeat' first | exact CO.nil | apply CO.gone | apply CO.row rfl rfl | apply CO.box rfl rfl | decide
            · rfl
            · decide
            · rfl
        refine aw_region ?_
        iterate 3 refine v_op hT hC rfl rfl rfl rfl trivial ?_
        refine Vc.nil ?_
        injection h with h
        subst h
        refine r_go ?_
        try dsimp only
        apply w_conv hC []
        · repeat' first | exact CO.nil | apply CO.gone | apply CO.row rfl rfl | apply CO.box rfl rfl | decide
        · rfl
        · decide
        · rfl
      · refine s_false rfl hb12 ?_
        refine aw_exit ?_
        refine t_exit ?_
        injection h with h
        subst h
        refine r_exit ?_
        refine o_out ?_
        apply w_conv hC []
        · repeat' first | exact CO.nil | apply CO.gone | apply CO.row rfl rfl | apply CO.box rfl rfl | decide
        · rfl
        · decide
        · rfl
    refine t_norm ?_
    refine s_reg ?_
    iterate 2 refine v_op hT hC rfl rfl rfl rfl trivial ?_
    obtain ⟨q12, hq, h⟩ := bnd_some h
    refine v_call hC [] rfl rfl rfl rfl Try.call269 (spec_Escaped_ac hq) rfl (by decide) trivial rfl (.inl rfl) rfl ?_
    iterate 5 refine v_op hT hC rfl rfl rfl rfl trivial ?_
    refine Vc.nil ?_
    refine s_in ?_
    refine live [0, 4, 6, 7] [176] (s' := [_, _, _, _]) (o' := [_]) rfl rfl ?_
    obtain ⟨v13, h1, h⟩ := bnd_some h
    refine aw_to ([(58, .sv (.bool v13)), (0, .any), (6, .any), (7, .any)], []) ?_ ?_
    · have h := h1
      refine aw_region ?_
      iterate 3 refine v_op hT hC rfl rfl rfl rfl trivial ?_
      rcases sel_some h with ⟨hb17, h⟩ | ⟨hb17, h⟩
      · iterate 3 refine v_on hT hC rfl rfl rfl rfl (congrArg Bool.not hb17) rfl rfl rfl trivial ?_
        refine v_pick hC rfl rfl rfl (b := false) (congrArg Bool.not hb17) rfl rfl rfl trivial ?_
        refine Vc.nil ?_
        injection h with h
        subst h
        refine m_norm ?_
        apply w_conv hC []
        · repeat' first | exact CO.nil | apply CO.gone | apply CO.row rfl rfl | apply CO.box rfl rfl | decide
        · rfl
        · decide
        · rfl
      · refine v_off hC rfl rfl rfl rfl (congrArg Bool.not hb17) rfl rfl ?_
        refine v_off hC rfl rfl rfl rfl (congrArg Bool.not hb17) rfl rfl ?_
        refine v_off hC rfl rfl rfl rfl (congrArg Bool.not hb17) rfl rfl ?_
        refine v_pick hC rfl rfl rfl (b := true) (congrArg Bool.not hb17) rfl rfl rfl trivial ?_
        refine Vc.nil ?_
        injection h with h
        subst h
        refine m_norm ?_
        apply w_conv hC []
        · repeat' first | exact CO.nil | apply CO.gone | apply CO.row rfl rfl | apply CO.box rfl rfl | decide
        · rfl
        · decide
        · rfl
    rcases sel_some h with ⟨hb18, h⟩ | ⟨hb18, h⟩
    · refine s_true rfl hb18 ?_
      refine s_reg ?_
      iterate 2 refine v_op hT hC rfl rfl rfl rfl trivial ?_
      refine Vc.nil ?_
      refine aw_ret ?_
      refine t_ret ?_
      injection h with h
      subst h
      exact ends (Weak.refl _) rfl trivial
    · refine s_false rfl hb18 ?_
      refine aw_skip ?_
      refine t_norm ?_
      refine s_reg ?_
      iterate 4 refine v_op hT hC rfl rfl rfl rfl trivial ?_
      refine Vc.nil ?_
      refine aw_ret ?_
      injection h with h
      subst h
      exact ends (Weak.refl _) rfl trivial
def spec_UnitsIn_res (r : (List ByteArray)) : AV := .own 16
def spec_UnitsIn_obs (r : (List ByteArray)) : Objs := [(16, .row cByteArray r)]
theorem spec_UnitsIn_ac {p0 : ByteArray} {r : (List ByteArray)} (h : spec_UnitsIn p0 = some r) : AC Try.prog 206 [.sv (.str p0)] [] (spec_UnitsIn_res r) (spec_UnitsIn_obs r) := by
  refine ac_of_body hT Try.func206 rfl fun C hC => ?_
  unfold spec_UnitsIn at h
  refine s_reg ?_
  refine v_op hT hC rfl rfl rfl rfl trivial ?_
  refine Vc.nil ?_
  refine s_reg ?_
  iterate 2 refine v_op hT hC rfl rfl rfl rfl trivial ?_
  refine Vc.nil ?_
  refine s_in ?_
  refine s_reg ?_
  iterate 3 refine v_op hT hC rfl rfl rfl rfl trivial ?_
  refine Vc.nil ?_
  rcases sel_some h with ⟨hb1, h⟩ | ⟨hb1, h⟩
  · refine s_true rfl hb1 ?_
    refine s_reg ?_
    iterate 2 refine v_op hT hC rfl rfl rfl rfl trivial ?_
    refine Vc.nil ?_
    refine aw_ret ?_
    refine t_ret ?_
    injection h with h
    subst h
    refine ends (τ := ⟨[(2, .own 16)], [(16, some (.row cByteArray ([] : List ByteArray)))]⟩) ?_ rfl ⟨rfl, trivial⟩
    apply w_conv hC [(16, 160)]
    · repeat' first | exact CO.nil | apply CO.gone | apply CO.row rfl rfl | apply CO.box rfl rfl | decide
    · rfl
    · decide
    · rfl
  · refine s_false rfl hb1 ?_
    refine aw_skip ?_
    refine t_norm ?_
    refine s_reg ?_
    refine v_op hT hC rfl rfl rfl rfl trivial ?_
    refine Vc.nil ?_
    refine s_in ?_
    refine s_reg ?_
    refine v_op hT hC rfl rfl rfl rfl trivial ?_
    refine Vc.nil ?_
    refine live [0, 3, 4, 5] [160] (s' := [_, _, _, _]) (o' := [_]) rfl rfl ?_
    obtain ⟨v34, hl, h⟩ := bnd_some h
    refine s_loop (fun v17 => ([(4, .sv (.int .i64 v17.1)), (5, .sv (.int .i64 v17.2.1))], [(160, some (.row cByteArray v17.2.2))])) (fun v34 => ([(0, .any), (4, .any), (5, .any)], [(160, some (.row cByteArray v34))])) hl ?_ ?_ ?_
    · try dsimp only
      apply w_conv hC []
      · repeat' first | exact CO.nil | apply CO.gone | apply CO.row rfl rfl | apply CO.box rfl rfl | decide
      · rfl
      · decide
      · rfl
    · intro v17 s hs
      have h := hs
      unfold spec_UnitsIn_l42 at h
      refine s_in ?_
      refine s_reg ?_
      iterate 4 refine v_op hT hC rfl rfl rfl rfl trivial ?_
      refine Vc.nil ?_
      rcases sel_some h with ⟨hb34, h⟩ | ⟨hb34, h⟩
      · refine s_true rfl hb34 ?_
        refine aw_skip ?_
        refine t_norm ?_
        refine live [0, 3, 4, 5] [160] (s' := [_, _, _, _]) (o' := [_]) rfl rfl ?_
        obtain ⟨v35, h1, h⟩ := bnd_some h
        refine aw_to ([(4, .sv (.int .i64 v35.1))], [(160, some (.row cByteArray v35.2))]) ?_ ?_
        · have h := h1
          refine s_block ?_
          refine live [0, 3, 4, 5] [160] (s' := [_, _, _, _]) (o' := [_]) rfl rfl ?_
          obtain ⟨v36, h1, h⟩ := bnd_some h
          refine aw_to ([(6, .sv (.bool v36))], []) ?_ ?_
          · have h := h1
            refine aw_region ?_
            iterate 6 refine v_op hT hC rfl rfl rfl rfl trivial ?_
            rcases sel_some h with ⟨hb35, h⟩ | ⟨hb35, h⟩
            · iterate 2 refine v_on hT hC rfl rfl rfl rfl hb35 rfl rfl rfl trivial ?_
              obtain ⟨hq, h⟩ := req_some h
              refine v_on hT hC rfl rfl rfl rfl hb35 rfl rfl rfl hq ?_
              refine v_on hT hC rfl rfl rfl rfl hb35 rfl rfl rfl trivial ?_
              refine v_pick hC rfl rfl rfl (b := true) hb35 rfl rfl rfl trivial ?_
              refine v_op hT hC rfl rfl rfl rfl trivial ?_
              rcases sel_some h with ⟨hb36, h⟩ | ⟨hb36, h⟩
              · iterate 3 refine v_on hT hC rfl rfl rfl rfl hb36 rfl rfl rfl trivial ?_
                obtain ⟨hq, h⟩ := req_some h
                refine v_on hT hC rfl rfl rfl rfl hb36 rfl rfl rfl hq ?_
                refine v_on hT hC rfl rfl rfl rfl hb36 rfl rfl rfl trivial ?_
                refine v_pick hC rfl rfl rfl (b := true) hb36 rfl rfl rfl trivial ?_
                refine v_op hT hC rfl rfl rfl rfl trivial ?_
                rcases sel_some h with ⟨hb37, h⟩ | ⟨hb37, h⟩
                · iterate 3 refine v_on hT hC rfl rfl rfl rfl hb37 rfl rfl rfl trivial ?_
                  obtain ⟨hq, h⟩ := req_some h
                  refine v_on hT hC rfl rfl rfl rfl hb37 rfl rfl rfl hq ?_
                  refine v_on hT hC rfl rfl rfl rfl hb37 rfl rfl rfl trivial ?_
                  refine v_pick hC rfl rfl rfl (b := true) hb37 rfl rfl rfl trivial ?_
                  refine v_op hT hC rfl rfl rfl rfl trivial ?_
                  refine Vc.nil ?_
                  injection h with h
                  subst h
                  refine m_norm ?_
                  apply w_conv hC []
                  · repeat' first | exact CO.nil | apply CO.gone | apply CO.row rfl rfl | apply CO.box rfl rfl | decide
                  · rfl
                  · decide
                  · rfl
                · refine v_off hC rfl rfl rfl rfl hb37 rfl rfl ?_
                  refine v_off hC rfl rfl rfl rfl hb37 rfl rfl ?_
                  refine v_off hC rfl rfl rfl rfl hb37 rfl rfl ?_
                  refine v_off hC rfl rfl rfl rfl hb37 rfl rfl ?_
                  refine v_off hC rfl rfl rfl rfl hb37 rfl rfl ?_
                  refine v_pick hC rfl rfl rfl (b := false) hb37 rfl rfl rfl trivial ?_
                  refine v_op hT hC rfl rfl rfl rfl trivial ?_
                  refine Vc.nil ?_
                  injection h with h
                  subst h
                  refine m_norm ?_
                  apply w_conv hC []
                  · repeat' first | exact CO.nil | apply CO.gone | apply CO.row rfl rfl | apply CO.box rfl rfl | decide
                  · rfl
                  · decide
                  · rfl
              · refine v_off hC rfl rfl rfl rfl hb36 rfl rfl ?_
                refine v_off hC rfl rfl rfl rfl hb36 rfl rfl ?_
                refine v_off hC rfl rfl rfl rfl hb36 rfl rfl ?_
                refine v_off hC rfl rfl rfl rfl hb36 rfl rfl ?_
                refine v_off hC rfl rfl rfl rfl hb36 rfl rfl ?_
                refine v_pick hC rfl rfl rfl (b := false) hb36 rfl rfl rfl trivial ?_
                refine v_op hT hC rfl rfl rfl rfl trivial ?_
                refine v_off hC rfl rfl rfl rfl rfl rfl rfl ?_
                refine v_off hC rfl rfl rfl rfl rfl rfl rfl ?_
                refine v_off hC rfl rfl rfl rfl rfl rfl rfl ?_
                refine v_off hC rfl rfl rfl rfl rfl rfl rfl ?_
                refine v_off hC rfl rfl rfl rfl rfl rfl rfl ?_
                iterate 2 refine v_op hT hC rfl rfl rfl rfl trivial ?_
                refine Vc.nil ?_
                injection h with h
                subst h
                refine m_norm ?_
                apply w_conv hC []
                · repeat' first | exact CO.nil | apply CO.gone | apply CO.row rfl rfl | apply CO.box rfl rfl | decide
                · rfl
                · decide
                · rfl
            · refine v_off hC rfl rfl rfl rfl hb35 rfl rfl ?_
              refine v_off hC rfl rfl rfl rfl hb35 rfl rfl ?_
              refine v_off hC rfl rfl rfl rfl hb35 rfl rfl ?_
              refine v_off hC rfl rfl rfl rfl hb35 rfl rfl ?_
              refine v_pick hC rfl rfl rfl (b := false) hb35 rfl rfl rfl trivial ?_
              refine v_op hT hC rfl rfl rfl rfl trivial ?_
              refine v_off hC rfl rfl rfl rfl rfl rfl rfl ?_
              refine v_off hC rfl rfl rfl rfl rfl rfl rfl ?_
              refine v_off hC rfl rfl rfl rfl rfl rfl rfl ?_
              refine v_off hC rfl rfl rfl rfl rfl rfl rfl ?_
              refine v_off hC rfl rfl rfl rfl rfl rfl rfl ?_
              iterate 2 refine v_op hT hC rfl rfl rfl rfl trivial ?_
              refine v_off hC rfl rfl rfl rfl rfl rfl rfl ?_
              refine v_off hC rfl rfl rfl rfl rfl rfl rfl ?_
              refine v_off hC rfl rfl rfl rfl rfl rfl rfl ?_
              refine v_off hC rfl rfl rfl rfl rfl rfl rfl ?_
              refine v_off hC rfl rfl rfl rfl rfl rfl rfl ?_
              iterate 2 refine v_op hT hC rfl rfl rfl rfl trivial ?_
              refine Vc.nil ?_
              injection h with h
              subst h
              refine m_norm ?_
              apply w_conv hC []
              · repeat' first | exact CO.nil | apply CO.gone | apply CO.row rfl rfl | apply CO.box rfl rfl | decide
              · rfl
              · decide
              · rfl
          refine s_in ?_
          refine live [0, 3, 4, 5, 6] [160] (s' := [_, _, _, _, _]) (o' := [_]) rfl rfl ?_
          obtain ⟨v37, h1, h⟩ := bnd_some h
          refine aw_to ([(53, .sv (.bool v37)), (6, .any)], []) ?_ ?_
          · have h := h1
            refine aw_region ?_
            iterate 3 refine v_op hT hC rfl rfl rfl rfl trivial ?_
            rcases sel_some h with ⟨hb38, h⟩ | ⟨hb38, h⟩
            · refine v_off hC rfl rfl rfl rfl (congrArg Bool.not hb38) rfl rfl ?_
              refine v_off hC rfl rfl rfl rfl (congrArg Bool.not hb38) rfl rfl ?_
              refine v_off hC rfl rfl rfl rfl (congrArg Bool.not hb38) rfl rfl ?_
              refine v_off hC rfl rfl rfl rfl (congrArg Bool.not hb38) rfl rfl ?_
              refine v_pick hC rfl rfl rfl (b := false) (congrArg Bool.not hb38) rfl rfl rfl trivial ?_
              refine Vc.nil ?_
              injection h with h
              subst h
              refine m_norm ?_
              apply w_conv hC []
              · repeat' first | exact CO.nil | apply CO.gone | apply CO.row rfl rfl | apply CO.box rfl rfl | decide
              · rfl
              · decide
              · rfl
            · iterate 4 refine v_on hT hC rfl rfl rfl rfl (congrArg Bool.not hb38) rfl rfl rfl trivial ?_
              refine v_pick hC rfl rfl rfl (b := true) (congrArg Bool.not hb38) rfl rfl rfl trivial ?_
              refine Vc.nil ?_
              injection h with h
              subst h
              refine m_norm ?_
              apply w_conv hC []
              · repeat' first | exact CO.nil | apply CO.gone | apply CO.row rfl rfl | apply CO.box rfl rfl | decide
              · rfl
              · decide
              · rfl
          rcases sel_some h with ⟨hb39, h⟩ | ⟨hb39, h⟩
          · refine s_true rfl hb39 ?_
            refine aw_exit ?_
            refine t_exit ?_
            refine b_exit ?_
            injection h with h
            subst h
            refine m_norm ?_
            try dsimp only
            apply w_conv hC []
            · repeat' first | exact CO.nil | apply CO.gone | apply CO.row rfl rfl | apply CO.box rfl rfl | decide
            · rfl
            · decide
            · rfl
          · refine s_false rfl hb39 ?_
            refine aw_skip ?_
            refine t_norm ?_
            refine live [0, 3, 4, 5] [160] (s' := [_, _, _, _]) (o' := [_]) rfl rfl ?_
            obtain ⟨v38, h1, h⟩ := bnd_some h
            refine aw_to ([(4, .any)], [(160, some (.row cByteArray v38))]) ?_ ?_
            · have h := h1
              refine live [0, 3, 4, 5] [160] (s' := [_, _, _, _]) (o' := [_]) rfl rfl ?_
              obtain ⟨v39, h1, h⟩ := bnd_some h
              refine aw_to ([(60, .sv (.bool v39))], []) ?_ ?_
              · have h := h1
                refine aw_region ?_
                iterate 3 refine v_op hT hC rfl rfl rfl rfl trivial ?_
                rcases sel_some h with ⟨hb40, h⟩ | ⟨hb40, h⟩
                · iterate 3 refine v_on hT hC rfl rfl rfl rfl hb40 rfl rfl rfl trivial ?_
                  refine v_pick hC rfl rfl rfl (b := true) hb40 rfl rfl rfl trivial ?_
                  refine Vc.nil ?_
                  injection h with h
                  subst h
                  refine m_norm ?_
                  apply w_conv hC []
                  · repeat' first | exact CO.nil | apply CO.gone | apply CO.row rfl rfl | apply CO.box rfl rfl | decide
                  · rfl
                  · decide
                  · rfl
                · refine v_off hC rfl rfl rfl rfl hb40 rfl rfl ?_
                  refine v_off hC rfl rfl rfl rfl hb40 rfl rfl ?_
                  refine v_off hC rfl rfl rfl rfl hb40 rfl rfl ?_
                  refine v_pick hC rfl rfl rfl (b := false) hb40 rfl rfl rfl trivial ?_
                  refine Vc.nil ?_
                  injection h with h
                  subst h
                  refine m_norm ?_
                  apply w_conv hC []
                  · repeat' first | exact CO.nil | apply CO.gone | apply CO.row rfl rfl | apply CO.box rfl rfl | decide
                  · rfl
                  · decide
                  · rfl
              rcases sel_some h with ⟨hb41, h⟩ | ⟨hb41, h⟩
              · refine s_true rfl hb41 ?_
                refine s_reg ?_
                iterate 2 refine v_op hT hC rfl rfl rfl rfl trivial ?_
                refine Vc.nil ?_
                refine s_in ?_
                refine live [0, 3, 4, 5, 7] [160] (s' := [_, _, _, _, _]) (o' := [_]) rfl rfl ?_
                obtain ⟨v45, hl, h⟩ := bnd_some h
                refine s_loop (fun v42 => ([(7, .sv (.int .i64 v42))], [])) (fun v45 => ([(7, .sv (.int .i64 v45))], [])) hl ?_ ?_ ?_
                · apply w_conv hC []
                  · repeat' first | exact CO.nil | apply CO.gone | apply CO.row rfl rfl | apply CO.box rfl rfl | decide
                  · rfl
                  · decide
                  · rfl
                · intro v42 s hs
                  have h := hs
                  unfold spec_UnitsIn_l50 at h
                  refine s_in ?_
                  refine live [0, 3, 4, 5, 7] [160] (s' := [_, _, _, _, _]) (o' := [_]) rfl rfl ?_
                  obtain ⟨v46, h1, h⟩ := bnd_some h
                  refine aw_to ([(71, .sv (.bool v46))], []) ?_ ?_
                  · have h := h1
                    refine aw_region ?_
                    iterate 4 refine v_op hT hC rfl rfl rfl rfl trivial ?_
                    rcases sel_some h with ⟨hb46, h⟩ | ⟨hb46, h⟩
                    · iterate 3 refine v_on hT hC rfl rfl rfl rfl hb46 rfl rfl rfl trivial ?_
                      obtain ⟨hq, h⟩ := req_some h
                      refine v_on hT hC rfl rfl rfl rfl hb46 rfl rfl rfl hq ?_
                      refine v_on hT hC rfl rfl rfl rfl hb46 rfl rfl rfl trivial ?_
                      refine v_pick hC rfl rfl rfl (b := true) hb46 rfl rfl rfl trivial ?_
                      refine Vc.nil ?_
                      injection h with h
                      subst h
                      refine m_norm ?_
                      apply w_conv hC []
                      · repeat' first | exact CO.nil | apply CO.gone | apply CO.row rfl rfl | apply CO.box rfl rfl | decide
                      · rfl
                      · decide
                      · rfl
                    · refine v_off hC rfl rfl rfl rfl hb46 rfl rfl ?_
                      refine v_off hC rfl rfl rfl rfl hb46 rfl rfl ?_
                      refine v_off hC rfl rfl rfl rfl hb46 rfl rfl ?_
                      refine v_off hC rfl rfl rfl rfl hb46 rfl rfl ?_
                      refine v_off hC rfl rfl rfl rfl hb46 rfl rfl ?_
                      refine v_pick hC rfl rfl rfl (b := false) hb46 rfl rfl rfl trivial ?_
                      refine Vc.nil ?_
                      injection h with h
                      subst h
                      refine m_norm ?_
                      apply w_conv hC []
                      · repeat' first | exact CO.nil | apply CO.gone | apply CO.row rfl rfl | apply CO.box rfl rfl | decide
                      · rfl
                      · decide
                      · rfl
                  rcases sel_some h with ⟨hb47, h⟩ | ⟨hb47, h⟩
                  · refine s_true rfl hb47 ?_
                    refine aw_skip ?_
                    refine t_norm ?_
                    refine s_block ?_
                    refine aw_region ?_
                    iterate 3 refine v_op hT hC rfl rfl rfl rfl trivial ?_
                    refine Vc.nil ?_
                    refine b_norm ?_
                    injection h with h
                    subst h
                    refine r_go ?_
                    apply w_conv hC []
                    · repeat' first | exact CO.nil | apply CO.gone | apply CO.row rfl rfl | apply CO.box rfl rfl | decide
                    · rfl
                    · decide
                    · rfl
                  · refine s_false rfl hb47 ?_
                    refine aw_exit ?_
                    refine t_exit ?_
                    injection h with h
                    subst h
                    refine r_exit ?_
                    refine o_out ?_
                    apply w_conv hC []
                    · repeat' first | exact CO.nil | apply CO.gone | apply CO.row rfl rfl | apply CO.box rfl rfl | decide
                    · rfl
                    · decide
                    · rfl
                refine t_norm ?_
                refine s_reg ?_
                iterate 3 refine v_op hT hC rfl rfl rfl rfl trivial ?_
                obtain ⟨hq, h⟩ := req_some h
                refine v_op hT hC rfl rfl rfl rfl hq ?_
                obtain ⟨q48, hq, h⟩ := bnd_some h
                refine v_call hC [] rfl rfl rfl rfl Try.call268 (spec_Unescaped_ac hq) rfl (by decide) trivial rfl (.inl rfl) rfl ?_
                iterate 5 refine v_op hT hC rfl rfl rfl rfl trivial ?_
                refine Vc.nil ?_
                refine live [0, 3, 5, 8, 9] [160] (s' := [_, _, _, _, _]) (o' := [_]) rfl rfl ?_
                obtain ⟨v49, h1, h⟩ := bnd_some h
                refine aw_to ([(87, .sv (.bool v49)), (9, .any)], []) ?_ ?_
                · have h := h1
                  refine aw_region ?_
                  iterate 2 refine v_op hT hC rfl rfl rfl rfl trivial ?_
                  rcases sel_some h with ⟨hb48, h⟩ | ⟨hb48, h⟩
                  · iterate 3 refine v_on hT hC rfl rfl rfl rfl hb48 rfl rfl rfl trivial ?_
                    refine v_pick hC rfl rfl rfl (b := true) hb48 rfl rfl rfl trivial ?_
                    refine Vc.nil ?_
                    injection h with h
                    subst h
                    refine m_norm ?_
                    apply w_conv hC []
                    · repeat' first | exact CO.nil | apply CO.gone | apply CO.row rfl rfl | apply CO.box rfl rfl | decide
                    · rfl
                    · decide
                    · rfl
                  · refine v_off hC rfl rfl rfl rfl hb48 rfl rfl ?_
                    refine v_off hC rfl rfl rfl rfl hb48 rfl rfl ?_
                    refine v_off hC rfl rfl rfl rfl hb48 rfl rfl ?_
                    refine v_pick hC rfl rfl rfl (b := false) hb48 rfl rfl rfl trivial ?_
                    refine Vc.nil ?_
                    injection h with h
                    subst h
                    refine m_norm ?_
                    apply w_conv hC []
                    · repeat' first | exact CO.nil | apply CO.gone | apply CO.row rfl rfl | apply CO.box rfl rfl | decide
                    · rfl
                    · decide
                    · rfl
                rcases sel_some h with ⟨hb49, h⟩ | ⟨hb49, h⟩
                · refine s_true rfl hb49 ?_
                  refine aw_region ?_
                  iterate 3 refine v_op hT hC rfl rfl rfl rfl trivial ?_
                  obtain ⟨hq, h⟩ := req_some h
                  refine v_op hT hC rfl rfl rfl rfl ⟨fun _ _ => rfl, by rw [cByteArray_id]; exact hq⟩ ?_
                  rw [cByteArray_id]
                  refine v_op hT hC rfl rfl rfl rfl trivial ?_
                  refine Vc.nil ?_
                  injection h with h
                  subst h
                  refine m_norm ?_
                  apply w_conv hC [(160, 1456)]
                  · repeat' first | exact CO.nil | apply CO.gone | apply CO.row rfl rfl | apply CO.box rfl rfl | decide
                  · rfl
                  · decide
                  · rfl
                · refine s_false rfl hb49 ?_
                  refine aw_skip ?_
                  injection h with h
                  subst h
                  refine m_norm ?_
                  apply w_conv hC []
                  · repeat' first | exact CO.nil | apply CO.gone | apply CO.row rfl rfl | apply CO.box rfl rfl | decide
                  · rfl
                  · decide
                  · rfl
              · refine s_false rfl hb41 ?_
                refine aw_skip ?_
                injection h with h
                subst h
                refine m_norm ?_
                apply w_conv hC []
                · repeat' first | exact CO.nil | apply CO.gone | apply CO.row rfl rfl | apply CO.box rfl rfl | decide
                · rfl
                · decide
                · rfl
            refine aw_region ?_
            iterate 3 refine v_op hT hC rfl rfl rfl rfl trivial ?_
            refine Vc.nil ?_
            refine b_norm ?_
            injection h with h
            subst h
            refine m_norm ?_
            try dsimp only
            apply w_conv hC []
            · repeat' first | exact CO.nil | apply CO.gone | apply CO.row rfl rfl | apply CO.box rfl rfl | decide
            · rfl
            · decide
            · rfl
        refine aw_region ?_
        iterate 3 refine v_op hT hC rfl rfl rfl rfl trivial ?_
        refine Vc.nil ?_
        injection h with h
        subst h
        refine r_go ?_
        try dsimp only
        apply w_conv hC []
        · repeat' first | exact CO.nil | apply CO.gone | apply CO.row rfl rfl | apply CO.box rfl rfl | decide
        · rfl
        · decide
        · rfl
      · refine s_false rfl hb34 ?_
        refine aw_exit ?_
        refine t_exit ?_
        injection h with h
        subst h
        refine r_exit ?_
        refine o_out ?_
        apply w_conv hC []
        · repeat' first | exact CO.nil | apply CO.gone | apply CO.row rfl rfl | apply CO.box rfl rfl | decide
        · rfl
        · decide
        · rfl
    refine t_norm ?_
    refine s_reg ?_
    iterate 2 refine v_op hT hC rfl rfl rfl rfl trivial ?_
    refine Vc.nil ?_
    refine aw_ret ?_
    injection h with h
    subst h
    refine ends (τ := ⟨[(2, .own 16)], [(16, some (.row cByteArray v34))]⟩) ?_ rfl ⟨rfl, trivial⟩
    apply w_conv hC [(16, 160)]
    · repeat' first | exact CO.nil | apply CO.gone | apply CO.row rfl rfl | apply CO.box rfl rfl | decide
    · rfl
    · decide
    · rfl
def spec_Framed_res (r : (ByteArray × Bool)) : AV := .tup [.sv (.str r.1), .sv (.bool r.2)]
def spec_Framed_obs (r : (ByteArray × Bool)) : Objs := []
theorem spec_Framed_ac {p0 : (List ByteArray)} {r : (ByteArray × Bool)} (h : spec_Framed p0 = some r) : AC Try.prog 207 [.sv (cByteArray.sv p0)] [] (spec_Framed_res r) (spec_Framed_obs r) := by
  refine ac_of_body hT Try.func207 rfl fun C hC => ?_
  unfold spec_Framed at h
  refine s_reg ?_
  iterate 2 refine v_op hT hC rfl rfl rfl rfl trivial ?_
  refine Vc.nil ?_
  refine s_in ?_
  refine s_reg ?_
  iterate 3 refine v_op hT hC rfl rfl rfl rfl trivial ?_
  refine Vc.nil ?_
  rcases sel_some h with ⟨hb1, h⟩ | ⟨hb1, h⟩
  · refine s_true rfl hb1 ?_
    refine s_reg ?_
    iterate 2 refine v_op hT hC rfl rfl rfl rfl trivial ?_
    refine Vc.nil ?_
    refine aw_ret ?_
    refine t_ret ?_
    injection h with h
    subst h
    exact ends (Weak.refl _) rfl trivial
  · refine s_false rfl hb1 ?_
    refine aw_skip ?_
    refine t_norm ?_
    refine s_reg ?_
    iterate 2 refine v_op hT hC rfl rfl rfl rfl trivial ?_
    refine Vc.nil ?_
    refine s_in ?_
    refine s_reg ?_
    refine v_op hT hC rfl rfl rfl rfl trivial ?_
    refine Vc.nil ?_
    refine live [0, 4, 5] [176] (s' := [_, _, _]) (o' := [_]) rfl rfl ?_
    obtain ⟨o8, hl, h⟩ := bnd_some h
    refine s_loopR (fun v3 => ([(5, .sv (.int .i64 v3.1))], [(176, some (.ints .u8 v3.2))])) (fun v6 => ([(0, .any), (5, .any)], [(176, some (.ints .u8 v6))])) (fun r => EndsA C T Try.f207.results.toList (spec_Framed_res r) (spec_Framed_obs r)) hl ?_ ?_ ?_ ?_
    · try dsimp only
      apply w_conv hC []
      · repeat' first | exact CO.nil | apply CO.gone | apply CO.row rfl rfl | apply CO.box rfl rfl | decide
      · rfl
      · decide
      · rfl
    · intro v3 s hs
      have h := hs
      unfold spec_Framed_l2 at h
      refine s_in ?_
      refine s_reg ?_
      iterate 4 refine v_op hT hC rfl rfl rfl rfl trivial ?_
      refine Vc.nil ?_
      rcases sel_some h with ⟨hb8, h⟩ | ⟨hb8, h⟩
      · refine s_true rfl hb8 ?_
        refine aw_skip ?_
        refine t_norm ?_
        refine s_in ?_
        refine s_block ?_
        refine s_reg ?_
        iterate 2 refine v_op hT hC rfl rfl rfl rfl trivial ?_
        obtain ⟨hq, h⟩ := req_some h
        refine v_op hT hC rfl rfl rfl rfl hq ?_
        refine v_op hT hC rfl rfl rfl rfl trivial ?_
        obtain ⟨q7, hq, h⟩ := bnd_some h
        refine v_call hC [] rfl rfl rfl rfl Try.call269 (spec_Escaped_ac hq) rfl (by decide) trivial rfl (.inl rfl) rfl ?_
        iterate 5 refine v_op hT hC rfl rfl rfl rfl trivial ?_
        refine Vc.nil ?_
        refine s_in ?_
        refine s_reg ?_
        iterate 2 refine v_op hT hC rfl rfl rfl rfl trivial ?_
        refine Vc.nil ?_
        rcases sel_some h with ⟨hb9, h⟩ | ⟨hb9, h⟩
        · refine s_true rfl hb9 ?_
          refine s_reg ?_
          iterate 2 refine v_op hT hC rfl rfl rfl rfl trivial ?_
          refine Vc.nil ?_
          refine aw_ret ?_
          refine t_ret ?_
          refine b_ret ?_
          refine t_ret ?_
          injection h with h
          subst h
          refine r_ret ?_
          refine o_ret ?_
          exact ends (Weak.refl _) rfl trivial
        · refine s_false rfl hb9 ?_
          refine aw_skip ?_
          refine t_norm ?_
          refine s_reg ?_
          iterate 2 refine v_op hT hC rfl rfl rfl rfl trivial ?_
          obtain ⟨hq, h⟩ := req_some h
          refine v_op hT hC rfl rfl rfl rfl ⟨trivial, hq⟩ ?_
          refine v_op hT hC rfl rfl rfl rfl trivial ?_
          refine Vc.nil ?_
          refine s_reg ?_
          iterate 2 refine v_op hT hC rfl rfl rfl rfl trivial ?_
          obtain ⟨hq, h⟩ := req_some h
          refine v_op hT hC rfl rfl rfl rfl ⟨trivial, hq⟩ ?_
          refine v_op hT hC rfl rfl rfl rfl trivial ?_
          refine Vc.nil ?_
          refine s_reg ?_
          iterate 3 refine v_op hT hC rfl rfl rfl rfl trivial ?_
          refine Vc.nil ?_
          rcases sel_some h with ⟨hb10, h⟩ | ⟨hb10, h⟩
          · refine s_true rfl hb10 ?_
            refine s_reg ?_
            iterate 2 refine v_op hT hC rfl rfl rfl rfl trivial ?_
            refine Vc.nil ?_
            refine aw_ret ?_
            refine b_ret ?_
            refine t_ret ?_
            injection h with h
            subst h
            refine r_ret ?_
            refine o_ret ?_
            exact ends (Weak.refl _) rfl trivial
          · refine s_false rfl hb10 ?_
            refine aw_skip ?_
            refine b_norm ?_
            refine t_norm ?_
            refine aw_region ?_
            iterate 3 refine v_op hT hC rfl rfl rfl rfl trivial ?_
            refine Vc.nil ?_
            injection h with h
            subst h
            refine r_go ?_
            try dsimp only
            apply w_conv hC [(176, 528)]
            · repeat' first | exact CO.nil | apply CO.gone | apply CO.row rfl rfl | apply CO.box rfl rfl | decide
            · rfl
            · decide
            · rfl
      · refine s_false rfl hb8 ?_
        refine aw_exit ?_
        refine t_exit ?_
        injection h with h
        subst h
        refine r_exit ?_
        refine o_both ?_
        apply w_conv hC []
        · repeat' first | exact CO.nil | apply CO.gone | apply CO.row rfl rfl | apply CO.box rfl rfl | decide
        · rfl
        · decide
        · rfl
    · intro v6 e
      subst e
      refine t_norm ?_
      refine s_reg ?_
      iterate 4 refine v_op hT hC rfl rfl rfl rfl trivial ?_
      refine Vc.nil ?_
      refine aw_ret ?_
      injection h with h
      subst h
      exact ends (Weak.refl _) rfl trivial
    · intro r' σ' e hE
      subst e
      injection h with h
      subst h
      refine t_ret ?_
      exact hE
def spec_Unframed_res (r : ((List ByteArray) × Bool)) : AV := .tup [.own 16, .sv (.bool r.2)]
def spec_Unframed_obs (r : ((List ByteArray) × Bool)) : Objs := [(16, .row cByteArray r.1)]
theorem spec_Unframed_ac {p0 : ByteArray} {r : ((List ByteArray) × Bool)} (h : spec_Unframed p0 = some r) : AC Try.prog 126 [.sv (.str p0)] [] (spec_Unframed_res r) (spec_Unframed_obs r) := by
  refine ac_of_body hT Try.func126 rfl fun C hC => ?_
  unfold spec_Unframed at h
  refine s_reg ?_
  iterate 2 refine v_op hT hC rfl rfl rfl rfl trivial ?_
  refine Vc.nil ?_
  refine s_reg ?_
  refine v_op hT hC rfl rfl rfl rfl trivial ?_
  obtain ⟨q1, hq, h⟩ := bnd_some h
  refine v_call hC [(16, 128)] rfl rfl rfl rfl Try.call206 (spec_UnitsIn_ac hq) rfl (by decide) trivial rfl (.inl rfl) rfl ?_
  refine v_op hT hC rfl rfl rfl rfl trivial ?_
  refine Vc.nil ?_
  refine s_reg ?_
  refine v_op hT hC rfl rfl rfl rfl trivial ?_
  obtain ⟨q2, hq, h⟩ := bnd_some h
  refine v_call hC [] rfl rfl rfl rfl Try.call207 (spec_Framed_ac hq) rfl (by decide) trivial rfl (.inr ⟨rfl, trivial⟩) rfl ?_
  iterate 5 refine v_op hT hC rfl rfl rfl rfl trivial ?_
  refine Vc.nil ?_
  refine s_in ?_
  refine live [0, 4, 5, 6] [128] (s' := [_, _, _, _]) (o' := [_]) rfl rfl ?_
  obtain ⟨v3, h1, h⟩ := bnd_some h
  refine aw_to ([(20, .sv (.bool v3)), (0, .any), (5, .any), (6, .any)], []) ?_ ?_
  · have h := h1
    refine aw_region ?_
    iterate 3 refine v_op hT hC rfl rfl rfl rfl trivial ?_
    rcases sel_some h with ⟨hb1, h⟩ | ⟨hb1, h⟩
    · iterate 3 refine v_on hT hC rfl rfl rfl rfl (congrArg Bool.not hb1) rfl rfl rfl trivial ?_
      refine v_pick hC rfl rfl rfl (b := false) (congrArg Bool.not hb1) rfl rfl rfl trivial ?_
      refine Vc.nil ?_
      injection h with h
      subst h
      refine m_norm ?_
      apply w_conv hC []
      · repeat' first | exact CO.nil | apply CO.gone | apply CO.row rfl rfl | apply CO.box rfl rfl | decide
      · rfl
      · decide
      · rfl
    · refine v_off hC rfl rfl rfl rfl (congrArg Bool.not hb1) rfl rfl ?_
      refine v_off hC rfl rfl rfl rfl (congrArg Bool.not hb1) rfl rfl ?_
      refine v_off hC rfl rfl rfl rfl (congrArg Bool.not hb1) rfl rfl ?_
      refine v_pick hC rfl rfl rfl (b := true) (congrArg Bool.not hb1) rfl rfl rfl trivial ?_
      refine Vc.nil ?_
      injection h with h
      subst h
      refine m_norm ?_
      apply w_conv hC []
      · repeat' first | exact CO.nil | apply CO.gone | apply CO.row rfl rfl | apply CO.box rfl rfl | decide
      · rfl
      · decide
      · rfl
  rcases sel_some h with ⟨hb2, h⟩ | ⟨hb2, h⟩
  · refine s_true rfl hb2 ?_
    refine s_reg ?_
    iterate 3 refine v_op hT hC rfl rfl rfl rfl trivial ?_
    refine Vc.nil ?_
    refine aw_ret ?_
    refine t_ret ?_
    injection h with h
    subst h
    refine ends (τ := ⟨[(2, .own 16), (3, .sv (.bool false))], [(16, some (.row cByteArray ([] : List ByteArray)))]⟩) ?_ rfl ⟨rfl, trivial⟩
    apply w_conv hC [(16, 336)]
    · repeat' first | exact CO.nil | apply CO.gone | apply CO.row rfl rfl | apply CO.box rfl rfl | decide
    · rfl
    · decide
    · rfl
  · refine s_false rfl hb2 ?_
    refine aw_skip ?_
    refine t_norm ?_
    refine s_reg ?_
    iterate 3 refine v_op hT hC rfl rfl rfl rfl trivial ?_
    refine Vc.nil ?_
    refine aw_ret ?_
    injection h with h
    subst h
    refine ends (τ := ⟨[(2, .own 16), (3, .sv (.bool true))], [(16, some (.row cByteArray q1))]⟩) ?_ rfl ⟨rfl, trivial⟩
    apply w_conv hC [(16, 128)]
    · repeat' first | exact CO.nil | apply CO.gone | apply CO.row rfl rfl | apply CO.box rfl rfl | decide
    · rfl
    · decide
    · rfl
def spec_PictureOf_res (r : ((List ByteArray) × Bool)) : AV := .tup [.own 16, .sv (.bool r.2)]
def spec_PictureOf_obs (r : ((List ByteArray) × Bool)) : Objs := [(16, .row cByteArray r.1)]
theorem spec_PictureOf_ac {p0 : (List Packet)} {r : ((List ByteArray) × Bool)} (h : spec_PictureOf p0 = some r) : AC Try.prog 39 [.sv (cPacket.sv p0)] [] (spec_PictureOf_res r) (spec_PictureOf_obs r) := by
  refine ac_of_body hT Try.func39 rfl fun C hC => ?_
  unfold spec_PictureOf at h
  refine s_reg ?_
  iterate 2 refine v_op hT hC rfl rfl rfl rfl trivial ?_
  refine Vc.nil ?_
  refine s_reg ?_
  refine v_op hT hC rfl rfl rfl rfl trivial ?_
  refine Vc.nil ?_
  refine s_in ?_
  refine s_reg ?_
  iterate 2 refine v_op hT hC rfl rfl rfl rfl trivial ?_
  obtain ⟨q1, hq, h⟩ := bnd_some h
  refine v_call hC [] rfl rfl rfl rfl Try.call106 (spec_l01In_ac hq) rfl (by decide) trivial rfl (.inl rfl) rfl ?_
  refine v_op hT hC rfl rfl rfl rfl trivial ?_
  refine Vc.nil ?_
  rcases sel_some h with ⟨hb1, h⟩ | ⟨hb1, h⟩
  · refine s_true rfl hb1 ?_
    refine s_reg ?_
    iterate 3 refine v_op hT hC rfl rfl rfl rfl trivial ?_
    refine Vc.nil ?_
    refine aw_ret ?_
    refine t_ret ?_
    injection h with h
    subst h
    refine ends (τ := ⟨[(2, .own 16), (3, .sv (.bool false))], [(16, some (.row cByteArray ([] : List ByteArray)))]⟩) ?_ rfl ⟨rfl, trivial⟩
    apply w_conv hC [(16, 160)]
    · repeat' first | exact CO.nil | apply CO.gone | apply CO.row rfl rfl | apply CO.box rfl rfl | decide
    · rfl
    · decide
    · rfl
  · refine s_false rfl hb1 ?_
    refine aw_skip ?_
    refine t_norm ?_
    refine s_in ?_
    refine s_reg ?_
    refine v_op hT hC rfl rfl rfl rfl trivial ?_
    refine Vc.nil ?_
    refine live [0, 4, 5] [] (s' := [_, _, _]) (o' := []) rfl rfl ?_
    obtain ⟨o18, hl, h⟩ := bnd_some h
    refine s_loopR (fun v7 => ([(4, .sv (.str v7.1)), (5, .sv (.int .i64 v7.2))], [])) (fun v13 => ([(4, .sv (.str v13)), (0, .any), (5, .any)], [])) (fun r => EndsA C T Try.f39.results.toList (spec_PictureOf_res r) (spec_PictureOf_obs r)) hl ?_ ?_ ?_ ?_
    · try dsimp only
      apply w_conv hC []
      · repeat' first | exact CO.nil | apply CO.gone | apply CO.row rfl rfl | apply CO.box rfl rfl | decide
      · rfl
      · decide
      · rfl
    · intro v7 s hs
      have h := hs
      unfold spec_PictureOf_l2 at h
      refine s_in ?_
      refine s_reg ?_
      iterate 4 refine v_op hT hC rfl rfl rfl rfl trivial ?_
      refine Vc.nil ?_
      rcases sel_some h with ⟨hb14, h⟩ | ⟨hb14, h⟩
      · refine s_true rfl hb14 ?_
        refine aw_skip ?_
        refine t_norm ?_
        refine s_in ?_
        refine s_block ?_
        refine s_in ?_
        refine live [0, 4, 5] [] (s' := [_, _, _]) (o' := []) rfl rfl ?_
        obtain ⟨v14, h1, h⟩ := bnd_some h
        refine aw_to ([(45, .sv (.bool v14))], []) ?_ ?_
        · have h := h1
          refine aw_region ?_
          iterate 2 refine v_op hT hC rfl rfl rfl rfl trivial ?_
          obtain ⟨hq, h⟩ := req_some h
          refine v_op hT hC rfl rfl rfl rfl hq ?_
          refine v_op hT hC rfl rfl rfl rfl trivial ?_
          obtain ⟨q15, hq, h⟩ := bnd_some h
          refine v_call hC [] rfl rfl rfl rfl Try.call124 (spec_PacketOk_ac hq) rfl (by decide) trivial rfl (.inl rfl) rfl ?_
          iterate 2 refine v_op hT hC rfl rfl rfl rfl trivial ?_
          rcases sel_some h with ⟨hb15, h⟩ | ⟨hb15, h⟩
          · iterate 2 refine v_on hT hC rfl rfl rfl rfl (congrArg Bool.not hb15) rfl rfl rfl trivial ?_
            obtain ⟨hq, h⟩ := req_some h
            refine v_on hT hC rfl rfl rfl rfl (congrArg Bool.not hb15) rfl rfl rfl hq ?_
            iterate 5 refine v_on hT hC rfl rfl rfl rfl (congrArg Bool.not hb15) rfl rfl rfl trivial ?_
            refine v_pick hC rfl rfl rfl (b := false) (congrArg Bool.not hb15) rfl rfl rfl trivial ?_
            refine v_op hT hC rfl rfl rfl rfl trivial ?_
            rcases sel_some h with ⟨hb16, h⟩ | ⟨hb16, h⟩
            · iterate 2 refine v_on hT hC rfl rfl rfl rfl (congrArg Bool.not hb16) rfl rfl rfl trivial ?_
              obtain ⟨hq, h⟩ := req_some h
              refine v_on hT hC rfl rfl rfl rfl (congrArg Bool.not hb16) rfl rfl rfl hq ?_
              iterate 8 refine v_on hT hC rfl rfl rfl rfl (congrArg Bool.not hb16) rfl rfl rfl trivial ?_
              refine v_pick hC rfl rfl rfl (b := false) (congrArg Bool.not hb16) rfl rfl rfl trivial ?_
              refine Vc.nil ?_
              injection h with h
              subst h
              refine m_norm ?_
              apply w_conv hC []
              · repeat' first | exact CO.nil | apply CO.gone | apply CO.row rfl rfl | apply CO.box rfl rfl | decide
              · rfl
              · decide
              · rfl
            · refine v_off hC rfl rfl rfl rfl (congrArg Bool.not hb16) rfl rfl ?_
              refine v_off hC rfl rfl rfl rfl (congrArg Bool.not hb16) rfl rfl ?_
              refine v_off hC rfl rfl rfl rfl (congrArg Bool.not hb16) rfl rfl ?_
              refine v_off hC rfl rfl rfl rfl (congrArg Bool.not hb16) rfl rfl ?_
              refine v_off hC rfl rfl rfl rfl (congrArg Bool.not hb16) rfl rfl ?_
              refine v_off hC rfl rfl rfl rfl (congrArg Bool.not hb16) rfl rfl ?_
              refine v_off hC rfl rfl rfl rfl (congrArg Bool.not hb16) rfl rfl ?_
              refine v_off hC rfl rfl rfl rfl (congrArg Bool.not hb16) rfl rfl ?_
              refine v_off hC rfl rfl rfl rfl (congrArg Bool.not hb16) rfl rfl ?_
              refine v_off hC rfl rfl rfl rfl (congrArg Bool.not hb16) rfl rfl ?_
              refine v_off hC rfl rfl rfl rfl (congrArg Bool.not hb16) rfl rfl ?_
              refine v_pick hC rfl rfl rfl (b := true) (congrArg Bool.not hb16) rfl rfl rfl trivial ?_
              refine Vc.nil ?_
              injection h with h
              subst h
              refine m_norm ?_
              apply w_conv hC []
              · repeat' first | exact CO.nil | apply CO.gone | apply CO.row rfl rfl | apply CO.box rfl rfl | decide
              · rfl
              · decide
              · rfl
          · refine v_off hC rfl rfl rfl rfl (congrArg Bool.not hb15) rfl rfl ?_
            refine v_off hC rfl rfl rfl rfl (congrArg Bool.not hb15) rfl rfl ?_
            refine v_off hC rfl rfl rfl rfl (congrArg Bool.not hb15) rfl rfl ?_
            refine v_off hC rfl rfl rfl rfl (congrArg Bool.not hb15) rfl rfl ?_
            refine v_off hC rfl rfl rfl rfl (congrArg Bool.not hb15) rfl rfl ?_
            refine v_off hC rfl rfl rfl rfl (congrArg Bool.not hb15) rfl rfl ?_
            refine v_off hC rfl rfl rfl rfl (congrArg Bool.not hb15) rfl rfl ?_
            refine v_off hC rfl rfl rfl rfl (congrArg Bool.not hb15) rfl rfl ?_
            refine v_pick hC rfl rfl rfl (b := true) (congrArg Bool.not hb15) rfl rfl rfl trivial ?_
            refine v_op hT hC rfl rfl rfl rfl trivial ?_
            refine v_off hC rfl rfl rfl rfl rfl rfl rfl ?_
            refine v_off hC rfl rfl rfl rfl rfl rfl rfl ?_
            refine v_off hC rfl rfl rfl rfl rfl rfl rfl ?_
            refine v_off hC rfl rfl rfl rfl rfl rfl rfl ?_
            refine v_off hC rfl rfl rfl rfl rfl rfl rfl ?_
            refine v_off hC rfl rfl rfl rfl rfl rfl rfl ?_
            refine v_off hC rfl rfl rfl rfl rfl rfl rfl ?_
            refine v_off hC rfl rfl rfl rfl rfl rfl rfl ?_
            refine v_off hC rfl rfl rfl rfl rfl rfl rfl ?_
            refine v_off hC rfl rfl rfl rfl rfl rfl rfl ?_
            refine v_off hC rfl rfl rfl rfl rfl rfl rfl ?_
            refine v_op hT hC rfl rfl rfl rfl trivial ?_
            refine Vc.nil ?_
            injection h with h
            subst h
            refine m_norm ?_
            apply w_conv hC []
            · repeat' first | exact CO.nil | apply CO.gone | apply CO.row rfl rfl | apply CO.box rfl rfl | decide
            · rfl
            · decide
            · rfl
        rcases sel_some h with ⟨hb17, h⟩ | ⟨hb17, h⟩
        · refine s_true rfl hb17 ?_
          refine s_reg ?_
          iterate 3 refine v_op hT hC rfl rfl rfl rfl trivial ?_
          refine Vc.nil ?_
          refine aw_ret ?_
          refine t_ret ?_
          refine b_ret ?_
          refine t_ret ?_
          injection h with h
          subst h
          refine r_ret ?_
          refine o_ret ?_
          refine ends (τ := ⟨[(2, .own 16), (3, .sv (.bool false))], [(16, some (.row cByteArray ([] : List ByteArray)))]⟩) ?_ rfl ⟨rfl, trivial⟩
          apply w_conv hC [(16, 736)]
          · repeat' first | exact CO.nil | apply CO.gone | apply CO.row rfl rfl | apply CO.box rfl rfl | decide
          · rfl
          · decide
          · rfl
        · refine s_false rfl hb17 ?_
          refine aw_skip ?_
          refine t_norm ?_
          refine s_in ?_
          refine live [0, 4, 5] [] (s' := [_, _, _]) (o' := []) rfl rfl ?_
          obtain ⟨v16, h1, h⟩ := bnd_some h
          refine aw_to ([(63, .sv (.bool v16))], []) ?_ ?_
          · have h := h1
            refine aw_draw hm ?_
            iterate 3 refine v_op hT hC rfl rfl rfl rfl trivial ?_
            rcases sel_some h with ⟨hb18, h⟩ | ⟨hb18, h⟩
            · iterate 2 refine v_on hT hC rfl rfl rfl rfl hb18 rfl rfl rfl trivial ?_
              obtain ⟨hq, h⟩ := req_some h
              refine v_on hT hC rfl rfl rfl rfl hb18 rfl rfl rfl hq ?_
              iterate 5 refine v_on hT hC rfl rfl rfl rfl hb18 rfl rfl rfl trivial ?_
              obtain ⟨hq, h⟩ := req_some h
              refine v_on hT hC rfl rfl rfl rfl hb18 rfl rfl rfl hq ?_
              iterate 2 refine v_on hT hC rfl rfl rfl rfl hb18 rfl rfl rfl trivial ?_
              obtain ⟨q17, hq, h⟩ := bnd_some h
              refine v_call_on hC [] rfl rfl rfl rfl hb18 rfl rfl rfl Try.call125 (spec_SeqPlus_ac hq) rfl (by decide) trivial rfl (.inl rfl) rfl ?_
              refine v_on hT hC rfl rfl rfl rfl hb18 rfl rfl rfl trivial ?_
              refine v_pick hC rfl rfl rfl (b := true) hb18 rfl rfl rfl trivial ?_
              refine Vc.nil ⟨by kernel_rfl, ?_⟩
              injection h with h
              subst h
              refine m_norm ?_
              apply w_conv hC []
              · repeat' first | exact CO.nil | apply CO.gone | apply CO.row rfl rfl | apply CO.box rfl rfl | decide
              · rfl
              · decide
              · rfl
            · refine v_off hC rfl rfl rfl rfl hb18 rfl rfl ?_
              refine v_off hC rfl rfl rfl rfl hb18 rfl rfl ?_
              refine v_off hC rfl rfl rfl rfl hb18 rfl rfl ?_
              refine v_off hC rfl rfl rfl rfl hb18 rfl rfl ?_
              refine v_off hC rfl rfl rfl rfl hb18 rfl rfl ?_
              refine v_off hC rfl rfl rfl rfl hb18 rfl rfl ?_
              refine v_off hC rfl rfl rfl rfl hb18 rfl rfl ?_
              refine v_off hC rfl rfl rfl rfl hb18 rfl rfl ?_
              refine v_off hC rfl rfl rfl rfl hb18 rfl rfl ?_
              refine v_off hC rfl rfl rfl rfl hb18 rfl rfl ?_
              refine v_off hC rfl rfl rfl rfl hb18 rfl rfl ?_
              refine v_off hC rfl rfl rfl rfl hb18 rfl rfl ?_
              refine v_off hC rfl rfl rfl rfl hb18 rfl rfl ?_
              refine v_pick hC rfl rfl rfl (b := false) hb18 rfl rfl rfl trivial ?_
              refine Vc.nil ⟨by kernel_rfl, ?_⟩
              injection h with h
              subst h
              refine m_norm ?_
              apply w_conv hC []
              · repeat' first | exact CO.nil | apply CO.gone | apply CO.row rfl rfl | apply CO.box rfl rfl | decide
              · rfl
              · decide
              · rfl
          rcases sel_some h with ⟨hb19, h⟩ | ⟨hb19, h⟩
          · refine s_true rfl hb19 ?_
            refine s_reg ?_
            iterate 3 refine v_op hT hC rfl rfl rfl rfl trivial ?_
            refine Vc.nil ?_
            refine aw_ret ?_
            refine t_ret ?_
            refine b_ret ?_
            refine t_ret ?_
            injection h with h
            subst h
            refine r_ret ?_
            refine o_ret ?_
            refine ends (τ := ⟨[(2, .own 16), (3, .sv (.bool false))], [(16, some (.row cByteArray ([] : List ByteArray)))]⟩) ?_ rfl ⟨rfl, trivial⟩
            apply w_conv hC [(16, 1024)]
            · repeat' first | exact CO.nil | apply CO.gone | apply CO.row rfl rfl | apply CO.box rfl rfl | decide
            · rfl
            · decide
            · rfl
          · refine s_false rfl hb19 ?_
            refine aw_skip ?_
            refine t_norm ?_
            refine aw_region ?_
            iterate 3 refine v_op hT hC rfl rfl rfl rfl trivial ?_
            obtain ⟨hq, h⟩ := req_some h
            refine v_op hT hC rfl rfl rfl rfl hq ?_
            iterate 2 refine v_op hT hC rfl rfl rfl rfl trivial ?_
            obtain ⟨hq, h⟩ := req_some h
            refine v_op hT hC rfl rfl rfl rfl hq ?_
            refine v_op hT hC rfl rfl rfl rfl trivial ?_
            refine Vc.nil ?_
            refine b_norm ?_
            refine t_norm ?_
            refine aw_region ?_
            iterate 3 refine v_op hT hC rfl rfl rfl rfl trivial ?_
            refine Vc.nil ?_
            injection h with h
            subst h
            refine r_go ?_
            try dsimp only
            apply w_conv hC []
            · repeat' first | exact CO.nil | apply CO.gone | apply CO.row rfl rfl | apply CO.box rfl rfl | decide
            · rfl
            · decide
            · rfl
      · refine s_false rfl hb14 ?_
        refine aw_exit ?_
        refine t_exit ?_
        injection h with h
        subst h
        refine r_exit ?_
        refine o_both ?_
        apply w_conv hC []
        · repeat' first | exact CO.nil | apply CO.gone | apply CO.row rfl rfl | apply CO.box rfl rfl | decide
        · rfl
        · decide
        · rfl
    · intro v13 e
      subst e
      refine t_norm ?_
      refine s_reg ?_
      refine v_op hT hC rfl rfl rfl rfl trivial ?_
      obtain ⟨q19, hq, h⟩ := bnd_some h
      refine v_call hC [(16, 1168)] rfl rfl rfl rfl Try.call126 (spec_Unframed_ac hq) rfl (by decide) trivial rfl (.inl rfl) rfl ?_
      iterate 4 refine v_op hT hC rfl rfl rfl rfl trivial ?_
      refine Vc.nil ?_
      refine aw_ret ?_
      injection h with h
      subst h
      refine ends (τ := ⟨[(2, .own 16), (3, .sv (.bool q19.2))], [(16, some (.row cByteArray q19.1))]⟩) ?_ rfl ⟨rfl, trivial⟩
      apply w_conv hC [(16, 1168)]
      · repeat' first | exact CO.nil | apply CO.gone | apply CO.row rfl rfl | apply CO.box rfl rfl | decide
      · rfl
      · decide
      · rfl
    · intro r' σ' e hE
      subst e
      injection h with h
      subst h
      refine t_ret ?_
      exact hE
def impl_isNumber_res (r : Bool) : AV := .sv (.bool r)
def impl_isNumber_obs (r : Bool) : Objs := []
theorem impl_isNumber_ac {p0 : Int} {r : Bool} (h : impl_isNumber p0 = some r) : AC Try.prog 144 [.sv (.int .i64 p0)] [] (impl_isNumber_res r) (impl_isNumber_obs r) := by
  refine ac_of_body hT Try.func144 rfl fun C hC => ?_
  unfold impl_isNumber at h
  refine s_reg ?_
  refine v_op hT hC rfl rfl rfl rfl trivial ?_
  refine Vc.nil ?_
  refine s_reg ?_
  refine v_op hT hC rfl rfl rfl rfl trivial ?_
  obtain ⟨q1, hq, h⟩ := bnd_some h
  refine v_call hC [] rfl rfl rfl rfl Try.call102 (impl_within_ac hq) rfl (by decide) trivial rfl (.inl rfl) rfl ?_
  refine v_op hT hC rfl rfl rfl rfl trivial ?_
  refine Vc.nil ?_
  refine aw_ret ?_
  injection h with h
  subst h
  exact ends (Weak.refl _) rfl trivial
def impl_PacketOk_res (r : Bool) : AV := .sv (.bool r)
def impl_PacketOk_obs (r : Bool) : Objs := []
theorem impl_PacketOk_ac {p0 : Packet} {r : Bool} (h : impl_PacketOk p0 = some r) : AC Try.prog 127 [.agg [.sv (.int .i64 p0.Seq), .sv (.bool p0.First), .sv (.bool p0.Last), .sv (.str p0.Bytes)]] [] (impl_PacketOk_res r) (impl_PacketOk_obs r) := by
  refine ac_of_body hT Try.func127 rfl fun C hC => ?_
  unfold impl_PacketOk at h
  refine s_reg ?_
  iterate 2 refine v_op hT hC rfl rfl rfl rfl trivial ?_
  refine Vc.nil ?_
  refine live [1, 2] [16] (s' := [_, _]) (o' := [_]) rfl rfl ?_
  obtain ⟨v1, h1, h⟩ := bnd_some h
  refine aw_to ([(2, .sv (.bool v1)), (1, .any)], [(16, none)]) ?_ ?_
  · have h := h1
    refine aw_region ?_
    iterate 2 refine v_op hT hC rfl rfl rfl rfl trivial ?_
    obtain ⟨q2, hq, h⟩ := bnd_some h
    refine v_call hC [] rfl rfl rfl rfl Try.call144 (impl_isNumber_ac hq) rfl (by decide) trivial rfl (.inl rfl) rfl ?_
    refine v_op hT hC rfl rfl rfl rfl trivial ?_
    rcases sel_some h with ⟨hb1, h⟩ | ⟨hb1, h⟩
    · iterate 3 refine v_on hT hC rfl rfl rfl rfl hb1 rfl rfl rfl trivial ?_
      obtain ⟨q3, hq, h⟩ := bnd_some h
      refine v_call_on hC [] rfl rfl rfl rfl hb1 rfl rfl rfl Try.call102 (impl_within_ac hq) rfl (by decide) trivial rfl (.inl rfl) rfl ?_
      refine v_pick hC rfl rfl rfl (b := true) hb1 rfl rfl rfl trivial ?_
      refine v_op hT hC rfl rfl rfl rfl trivial ?_
      refine Vc.nil ?_
      injection h with h
      subst h
      refine m_norm ?_
      apply w_conv hC []
      · repeat' first | exact CO.nil | apply CO.gone | apply CO.row rfl rfl | apply CO.box rfl rfl | decide
      · rfl
      · decide
      · rfl
    · refine v_off hC rfl rfl rfl rfl hb1 rfl rfl ?_
      refine v_off hC rfl rfl rfl rfl hb1 rfl rfl ?_
      refine v_off hC rfl rfl rfl rfl hb1 rfl rfl ?_
      refine v_off hC rfl rfl rfl rfl hb1 rfl rfl ?_
      refine v_pick hC rfl rfl rfl (b := false) hb1 rfl rfl rfl trivial ?_
      refine v_op hT hC rfl rfl rfl rfl trivial ?_
      refine Vc.nil ?_
      injection h with h
      subst h
      refine m_norm ?_
      apply w_conv hC []
      · repeat' first | exact CO.nil | apply CO.gone | apply CO.row rfl rfl | apply CO.box rfl rfl | decide
      · rfl
      · decide
      · rfl
  refine aw_ret ?_
  injection h with h
  subst h
  exact ends (Weak.refl _) rfl trivial
def impl_SeqPlus_res (r : Int) : AV := .sv (.int .i64 r)
def impl_SeqPlus_obs (r : Int) : Objs := []
theorem impl_SeqPlus_ac {p0 : Int} {p1 : Int} {r : Int} (h : impl_SeqPlus p0 p1 = some r) : AC Try.prog 128 [.sv (.int .i64 p0), .sv (.int .i64 p1)] [] (impl_SeqPlus_res r) (impl_SeqPlus_obs r) := by
  refine ac_of_body hT Try.func128 rfl fun C hC => ?_
  unfold impl_SeqPlus at h
  refine s_reg ?_
  refine v_op hT hC rfl rfl rfl rfl trivial ?_
  refine Vc.nil ?_
  refine s_in ?_
  refine live [0, 1] [] (s' := [_, _]) (o' := []) rfl rfl ?_
  obtain ⟨v1, h1, h⟩ := bnd_some h
  refine aw_to ([(12, .sv (.bool v1))], []) ?_ ?_
  · have h := h1
    refine aw_region ?_
    refine v_op hT hC rfl rfl rfl rfl trivial ?_
    obtain ⟨q2, hq, h⟩ := bnd_some h
    refine v_call hC [] rfl rfl rfl rfl Try.call144 (impl_isNumber_ac hq) rfl (by decide) trivial rfl (.inl rfl) rfl ?_
    iterate 2 refine v_op hT hC rfl rfl rfl rfl trivial ?_
    rcases sel_some h with ⟨hb1, h⟩ | ⟨hb1, h⟩
    · refine v_on hT hC rfl rfl rfl rfl (congrArg Bool.not hb1) rfl rfl rfl trivial ?_
      obtain ⟨q3, hq, h⟩ := bnd_some h
      refine v_call_on hC [] rfl rfl rfl rfl (congrArg Bool.not hb1) rfl rfl rfl Try.call144 (impl_isNumber_ac hq) rfl (by decide) trivial rfl (.inl rfl) rfl ?_
      refine v_on hT hC rfl rfl rfl rfl (congrArg Bool.not hb1) rfl rfl rfl trivial ?_
      refine v_pick hC rfl rfl rfl (b := false) (congrArg Bool.not hb1) rfl rfl rfl trivial ?_
      refine Vc.nil ?_
      injection h with h
      subst h
      refine m_norm ?_
      apply w_conv hC []
      · repeat' first | exact CO.nil | apply CO.gone | apply CO.row rfl rfl | apply CO.box rfl rfl | decide
      · rfl
      · decide
      · rfl
    · refine v_off hC rfl rfl rfl rfl (congrArg Bool.not hb1) rfl rfl ?_
      refine v_off hC rfl rfl rfl rfl (congrArg Bool.not hb1) rfl rfl ?_
      refine v_off hC rfl rfl rfl rfl (congrArg Bool.not hb1) rfl rfl ?_
      refine v_pick hC rfl rfl rfl (b := true) (congrArg Bool.not hb1) rfl rfl rfl trivial ?_
      refine Vc.nil ?_
      injection h with h
      subst h
      refine m_norm ?_
      apply w_conv hC []
      · repeat' first | exact CO.nil | apply CO.gone | apply CO.row rfl rfl | apply CO.box rfl rfl | decide
      · rfl
      · decide
      · rfl
  rcases sel_some h with ⟨hb2, h⟩ | ⟨hb2, h⟩
  · refine s_true rfl hb2 ?_
    refine s_reg ?_
    refine v_op hT hC rfl rfl rfl rfl trivial ?_
    refine Vc.nil ?_
    refine aw_ret ?_
    refine t_ret ?_
    injection h with h
    subst h
    exact ends (Weak.refl _) rfl trivial
  · refine s_false rfl hb2 ?_
    refine aw_skip ?_
    refine t_norm ?_
    refine s_reg ?_
    iterate 3 refine v_op hT hC rfl rfl rfl rfl trivial ?_
    obtain ⟨hq, h⟩ := req_some h
    refine v_op hT hC rfl rfl rfl rfl hq ?_
    refine v_op hT hC rfl rfl rfl rfl trivial ?_
    refine Vc.nil ?_
    refine aw_ret ?_
    injection h with h
    subst h
    exact ends (Weak.refl _) rfl trivial
def impl_places_res (r : (List Int)) : AV := .own 16
def impl_places_obs (r : (List Int)) : Objs := [(16, .ints .i64 r)]
theorem impl_places_ac {p0 : ByteArray} {r : (List Int)} (h : impl_places p0 = some r) : AC Try.prog 208 [.sv (.str p0)] [] (impl_places_res r) (impl_places_obs r) := by
  refine ac_of_body hT Try.func208 rfl fun C hC => ?_
  unfold impl_places at h
  refine s_reg ?_
  refine v_op hT hC rfl rfl rfl rfl trivial ?_
  refine Vc.nil ?_
  refine s_reg ?_
  iterate 2 refine v_op hT hC rfl rfl rfl rfl trivial ?_
  refine Vc.nil ?_
  refine s_in ?_
  refine s_reg ?_
  refine v_op hT hC rfl rfl rfl rfl trivial ?_
  refine Vc.nil ?_
  refine live [0, 3, 4] [80] (s' := [_, _, _]) (o' := [_]) rfl rfl ?_
  obtain ⟨v6, hl, h⟩ := bnd_some h
  refine s_loop (fun v3 => ([(4, .sv (.int .i64 v3.1))], [(80, some (.ints .i64 v3.2))])) (fun v6 => ([(0, .any), (4, .any)], [(80, some (.ints .i64 v6))])) hl ?_ ?_ ?_
  · try dsimp only
    apply w_conv hC []
    · repeat' first | exact CO.nil | apply CO.gone | apply CO.row rfl rfl | apply CO.box rfl rfl | decide
    · rfl
    · decide
    · rfl
  · intro v3 s hs
    have h := hs
    unfold impl_places_l2 at h
    refine s_in ?_
    refine s_reg ?_
    iterate 5 refine v_op hT hC rfl rfl rfl rfl trivial ?_
    refine Vc.nil ?_
    rcases sel_some h with ⟨hb5, h⟩ | ⟨hb5, h⟩
    · refine s_true rfl hb5 ?_
      refine aw_skip ?_
      refine t_norm ?_
      refine live [0, 3, 4] [80] (s' := [_, _, _]) (o' := [_]) rfl rfl ?_
      obtain ⟨v7, h1, h⟩ := bnd_some h
      refine aw_to ([], [(80, some (.ints .i64 v7))]) ?_ ?_
      · have h := h1
        refine s_block ?_
        refine s_reg ?_
        iterate 4 refine v_op hT hC rfl rfl rfl rfl trivial ?_
        obtain ⟨hq, h⟩ := req_some h
        refine v_op hT hC rfl rfl rfl rfl hq ?_
        refine v_op hT hC rfl rfl rfl rfl trivial ?_
        refine Vc.nil ?_
        rcases sel_some h with ⟨hb6, h⟩ | ⟨hb6, h⟩
        · refine s_true rfl hb6 ?_
          refine aw_region ?_
          iterate 3 refine v_op hT hC rfl rfl rfl rfl trivial ?_
          obtain ⟨hq, h⟩ := req_some h
          refine v_op hT hC rfl rfl rfl rfl ⟨trivial, hq⟩ ?_
          refine v_op hT hC rfl rfl rfl rfl trivial ?_
          refine Vc.nil ?_
          refine b_norm ?_
          injection h with h
          subst h
          refine m_norm ?_
          apply w_conv hC [(80, 352)]
          · repeat' first | exact CO.nil | apply CO.gone | apply CO.row rfl rfl | apply CO.box rfl rfl | decide
          · rfl
          · decide
          · rfl
        · refine s_false rfl hb6 ?_
          refine aw_skip ?_
          refine b_norm ?_
          injection h with h
          subst h
          refine m_norm ?_
          apply w_conv hC []
          · repeat' first | exact CO.nil | apply CO.gone | apply CO.row rfl rfl | apply CO.box rfl rfl | decide
          · rfl
          · decide
          · rfl
      refine aw_region ?_
      iterate 3 refine v_op hT hC rfl rfl rfl rfl trivial ?_
      refine Vc.nil ?_
      injection h with h
      subst h
      refine r_go ?_
      try dsimp only
      apply w_conv hC []
      · repeat' first | exact CO.nil | apply CO.gone | apply CO.row rfl rfl | apply CO.box rfl rfl | decide
      · rfl
      · decide
      · rfl
    · refine s_false rfl hb5 ?_
      refine aw_exit ?_
      refine t_exit ?_
      injection h with h
      subst h
      refine r_exit ?_
      refine o_out ?_
      apply w_conv hC []
      · repeat' first | exact CO.nil | apply CO.gone | apply CO.row rfl rfl | apply CO.box rfl rfl | decide
      · rfl
      · decide
      · rfl
  refine t_norm ?_
  refine s_reg ?_
  iterate 2 refine v_op hT hC rfl rfl rfl rfl trivial ?_
  refine Vc.nil ?_
  refine aw_ret ?_
  injection h with h
  subst h
  refine ends (τ := ⟨[(2, .own 16)], [(16, some (.ints .i64 v6))]⟩) ?_ rfl ⟨rfl, trivial⟩
  apply w_conv hC [(16, 80)]
  · repeat' first | exact CO.nil | apply CO.gone | apply CO.row rfl rfl | apply CO.box rfl rfl | decide
  · rfl
  · decide
  · rfl
def impl_Escaped_res (r : (ByteArray × Bool)) : AV := .tup [.sv (.str r.1), .sv (.bool r.2)]
def impl_Escaped_obs (r : (ByteArray × Bool)) : Objs := []
theorem impl_Escaped_ac {p0 : ByteArray} {r : (ByteArray × Bool)} (h : impl_Escaped p0 = some r) : AC Try.prog 270 [.sv (.str p0)] [] (impl_Escaped_res r) (impl_Escaped_obs r) := by
  refine ac_of_body hT Try.func270 rfl fun C hC => ?_
  unfold impl_Escaped at h
  refine s_reg ?_
  iterate 2 refine v_op hT hC rfl rfl rfl rfl trivial ?_
  refine Vc.nil ?_
  refine s_in ?_
  refine live [0] [] (s' := [_]) (o' := []) rfl rfl ?_
  obtain ⟨v1, h1, h⟩ := bnd_some h
  refine aw_to ([(21, .sv (.bool v1))], []) ?_ ?_
  · have h := h1
    refine aw_region ?_
    iterate 3 refine v_op hT hC rfl rfl rfl rfl trivial ?_
    rcases sel_some h with ⟨hb1, h⟩ | ⟨hb1, h⟩
    · refine v_off hC rfl rfl rfl rfl hb1 rfl rfl ?_
      refine v_off hC rfl rfl rfl rfl hb1 rfl rfl ?_
      refine v_off hC rfl rfl rfl rfl hb1 rfl rfl ?_
      refine v_pick hC rfl rfl rfl (b := true) hb1 rfl rfl rfl trivial ?_
      refine v_op hT hC rfl rfl rfl rfl trivial ?_
      refine v_off hC rfl rfl rfl rfl rfl rfl rfl ?_
      refine v_off hC rfl rfl rfl rfl rfl rfl rfl ?_
      refine v_off hC rfl rfl rfl rfl rfl rfl rfl ?_
      refine v_off hC rfl rfl rfl rfl rfl rfl rfl ?_
      refine v_off hC rfl rfl rfl rfl rfl rfl rfl ?_
      refine v_off hC rfl rfl rfl rfl rfl rfl rfl ?_
      refine v_op hT hC rfl rfl rfl rfl trivial ?_
      refine Vc.nil ?_
      injection h with h
      subst h
      refine m_norm ?_
      apply w_conv hC []
      · repeat' first | exact CO.nil | apply CO.gone | apply CO.row rfl rfl | apply CO.box rfl rfl | decide
      · rfl
      · decide
      · rfl
    · iterate 3 refine v_on hT hC rfl rfl rfl rfl hb1 rfl rfl rfl trivial ?_
      refine v_pick hC rfl rfl rfl (b := false) hb1 rfl rfl rfl trivial ?_
      refine v_op hT hC rfl rfl rfl rfl trivial ?_
      rcases sel_some h with ⟨hb2, h⟩ | ⟨hb2, h⟩
      · refine v_off hC rfl rfl rfl rfl hb2 rfl rfl ?_
        refine v_off hC rfl rfl rfl rfl hb2 rfl rfl ?_
        refine v_off hC rfl rfl rfl rfl hb2 rfl rfl ?_
        refine v_off hC rfl rfl rfl rfl hb2 rfl rfl ?_
        refine v_off hC rfl rfl rfl rfl hb2 rfl rfl ?_
        refine v_off hC rfl rfl rfl rfl hb2 rfl rfl ?_
        refine v_pick hC rfl rfl rfl (b := true) hb2 rfl rfl rfl trivial ?_
        refine Vc.nil ?_
        injection h with h
        subst h
        refine m_norm ?_
        apply w_conv hC []
        · repeat' first | exact CO.nil | apply CO.gone | apply CO.row rfl rfl | apply CO.box rfl rfl | decide
        · rfl
        · decide
        · rfl
      · iterate 4 refine v_on hT hC rfl rfl rfl rfl hb2 rfl rfl rfl trivial ?_
        obtain ⟨hq, h⟩ := req_some h
        refine v_on hT hC rfl rfl rfl rfl hb2 rfl rfl rfl hq ?_
        refine v_on hT hC rfl rfl rfl rfl hb2 rfl rfl rfl trivial ?_
        refine v_pick hC rfl rfl rfl (b := false) hb2 rfl rfl rfl trivial ?_
        refine Vc.nil ?_
        injection h with h
        subst h
        refine m_norm ?_
        apply w_conv hC []
        · repeat' first | exact CO.nil | apply CO.gone | apply CO.row rfl rfl | apply CO.box rfl rfl | decide
        · rfl
        · decide
        · rfl
  rcases sel_some h with ⟨hb3, h⟩ | ⟨hb3, h⟩
  · refine s_true rfl hb3 ?_
    refine s_reg ?_
    iterate 2 refine v_op hT hC rfl rfl rfl rfl trivial ?_
    refine Vc.nil ?_
    refine aw_ret ?_
    refine t_ret ?_
    injection h with h
    subst h
    exact ends (Weak.refl _) rfl trivial
  · refine s_false rfl hb3 ?_
    refine aw_skip ?_
    refine t_norm ?_
    refine s_reg ?_
    iterate 4 refine v_op hT hC rfl rfl rfl rfl trivial ?_
    obtain ⟨hq, h⟩ := req_some h
    refine v_op hT hC rfl rfl rfl rfl hq ?_
    refine v_op hT hC rfl rfl rfl rfl trivial ?_
    obtain ⟨hq, h⟩ := req_some h
    refine v_op hT hC rfl rfl rfl rfl ⟨hq.1, hq.2.1, hq.2.2, by decide⟩ ?_
    refine v_op hT hC rfl rfl rfl rfl trivial ?_
    refine Vc.nil ?_
    refine s_reg ?_
    refine v_op hT hC rfl rfl rfl rfl trivial ?_
    refine Vc.nil ?_
    refine s_in ?_
    refine s_reg ?_
    refine v_op hT hC rfl rfl rfl rfl trivial ?_
    refine Vc.nil ?_
    refine live [0, 4, 5, 6] [448] (s' := [_, _, _, _]) (o' := [_]) rfl rfl ?_
    obtain ⟨v11, hl, h⟩ := bnd_some h
    refine s_loop (fun v6 => ([(5, .sv (.int .i64 v6.1)), (6, .sv (.int .i64 v6.2.1))], [(448, some (.ints .u8 v6.2.2))])) (fun v11 => ([(0, .any), (5, .any), (6, .any)], [(448, some (.ints .u8 v11))])) hl ?_ ?_ ?_
    · try dsimp only
      apply w_conv hC []
      · repeat' first | exact CO.nil | apply CO.gone | apply CO.row rfl rfl | apply CO.box rfl rfl | decide
      · rfl
      · decide
      · rfl
    · intro v6 s hs
      have h := hs
      unfold impl_Escaped_l2 at h
      refine s_in ?_
      refine s_reg ?_
      iterate 4 refine v_op hT hC rfl rfl rfl rfl trivial ?_
      refine Vc.nil ?_
      rcases sel_some h with ⟨hb12, h⟩ | ⟨hb12, h⟩
      · refine s_true rfl hb12 ?_
        refine aw_skip ?_
        refine t_norm ?_
        refine live [0, 4, 5, 6] [448] (s' := [_, _, _, _]) (o' := [_]) rfl rfl ?_
        obtain ⟨v12, h1, h⟩ := bnd_some h
        refine aw_to ([(4, .own 982), (5, .sv (.int .i64 v12.1))], [(982, some (.ints .u8 v12.2)), (448, none)]) ?_ ?_
        · have h := h1
          refine s_block ?_
          refine live [0, 4, 5, 6] [448] (s' := [_, _, _, _]) (o' := [_]) rfl rfl ?_
          obtain ⟨v13, h1, h⟩ := bnd_some h
          refine aw_to ([(5, .sv (.int .i64 v13.1))], [(448, some (.ints .u8 v13.2))]) ?_ ?_
          · have h := h1
            refine live [0, 4, 5, 6] [448] (s' := [_, _, _, _]) (o' := [_]) rfl rfl ?_
            obtain ⟨v14, h1, h⟩ := bnd_some h
            refine aw_to ([(42, .sv (.bool v14))], []) ?_ ?_
            · have h := h1
              refine aw_region ?_
              iterate 2 refine v_op hT hC rfl rfl rfl rfl trivial ?_
              obtain ⟨hq, h⟩ := req_some h
              refine v_op hT hC rfl rfl rfl rfl hq ?_
              iterate 2 refine v_op hT hC rfl rfl rfl rfl trivial ?_
              rcases sel_some h with ⟨hb13, h⟩ | ⟨hb13, h⟩
              · iterate 2 refine v_on hT hC rfl rfl rfl rfl hb13 rfl rfl rfl trivial ?_
                refine v_pick hC rfl rfl rfl (b := true) hb13 rfl rfl rfl trivial ?_
                refine Vc.nil ?_
                injection h with h
                subst h
                refine m_norm ?_
                apply w_conv hC []
                · repeat' first | exact CO.nil | apply CO.gone | apply CO.row rfl rfl | apply CO.box rfl rfl | decide
                · rfl
                · decide
                · rfl
              · refine v_off hC rfl rfl rfl rfl hb13 rfl rfl ?_
                refine v_off hC rfl rfl rfl rfl hb13 rfl rfl ?_
                refine v_pick hC rfl rfl rfl (b := false) hb13 rfl rfl rfl trivial ?_
                refine Vc.nil ?_
                injection h with h
                subst h
                refine m_norm ?_
                apply w_conv hC []
                · repeat' first | exact CO.nil | apply CO.gone | apply CO.row rfl rfl | apply CO.box rfl rfl | decide
                · rfl
                · decide
                · rfl
            rcases sel_some h with ⟨hb14, h⟩ | ⟨hb14, h⟩
            · refine s_true rfl hb14 ?_
              refine s_reg ?_
              iterate 2 refine v_op hT hC rfl rfl rfl rfl trivial ?_
              obtain ⟨hq, h⟩ := req_some h
              refine v_op hT hC rfl rfl rfl rfl ⟨trivial, hq⟩ ?_
              refine v_op hT hC rfl rfl rfl rfl trivial ?_
              refine Vc.nil ?_
              refine aw_region ?_
              refine v_op hT hC rfl rfl rfl rfl trivial ?_
              refine Vc.nil ?_
              injection h with h
              subst h
              refine m_norm ?_
              try dsimp only
              apply w_conv hC [(448, 720)]
              · repeat' first | exact CO.nil | apply CO.gone | apply CO.row rfl rfl | apply CO.box rfl rfl | decide
              · rfl
              · decide
              · rfl
            · refine s_false rfl hb14 ?_
              refine aw_skip ?_
              injection h with h
              subst h
              refine m_norm ?_
              try dsimp only
              apply w_conv hC []
              · repeat' first | exact CO.nil | apply CO.gone | apply CO.row rfl rfl | apply CO.box rfl rfl | decide
              · rfl
              · decide
              · rfl
          refine s_reg ?_
          iterate 3 refine v_op hT hC rfl rfl rfl rfl trivial ?_
          obtain ⟨hq, h⟩ := req_some h
          refine v_op hT hC rfl rfl rfl rfl hq ?_
          refine v_op hT hC rfl rfl rfl rfl trivial ?_
          obtain ⟨hq, h⟩ := req_some h
          refine v_op hT hC rfl rfl rfl rfl ⟨trivial, hq⟩ ?_
          refine v_op hT hC rfl rfl rfl rfl trivial ?_
          refine Vc.nil ?_
          refine s_reg ?_
          iterate 2 refine v_op hT hC rfl rfl rfl rfl trivial ?_
          obtain ⟨hq, h⟩ := req_some h
          refine v_op hT hC rfl rfl rfl rfl hq ?_
          refine v_op hT hC rfl rfl rfl rfl trivial ?_
          refine Vc.nil ?_
          rcases sel_some h with ⟨hb15, h⟩ | ⟨hb15, h⟩
          · refine s_true rfl hb15 ?_
            refine aw_region ?_
            iterate 3 refine v_op hT hC rfl rfl rfl rfl trivial ?_
            refine Vc.nil ?_
            refine b_norm ?_
            injection h with h
            subst h
            refine m_norm ?_
            try dsimp only
            apply w_conv hC [(982, 816)]
            · repeat' first | exact CO.nil | apply CO.gone | apply CO.row rfl rfl | apply CO.box rfl rfl | decide
            · rfl
            · decide
            · rfl
          · refine s_false rfl hb15 ?_
            refine aw_region ?_
            refine v_op hT hC rfl rfl rfl rfl trivial ?_
            refine Vc.nil ?_
            refine b_norm ?_
            injection h with h
            subst h
            refine m_norm ?_
            try dsimp only
            apply w_conv hC [(982, 816)]
            · repeat' first | exact CO.nil | apply CO.gone | apply CO.row rfl rfl | apply CO.box rfl rfl | decide
            · rfl
            · decide
            · rfl
        refine aw_region ?_
        iterate 3 refine v_op hT hC rfl rfl rfl rfl trivial ?_
        refine Vc.nil ?_
        injection h with h
        subst h
        refine r_go ?_
        try dsimp only
        apply w_conv hC [(448, 982)]
        · repeat' first | exact CO.nil | apply CO.gone | apply CO.row rfl rfl | apply CO.box rfl rfl | decide
        · rfl
        · decide
        · rfl
      · refine s_false rfl hb12 ?_
        refine aw_exit ?_
        refine t_exit ?_
        injection h with h
        subst h
        refine r_exit ?_
        refine o_out ?_
        apply w_conv hC []
        · repeat' first | exact CO.nil | apply CO.gone | apply CO.row rfl rfl | apply CO.box rfl rfl | decide
        · rfl
        · decide
        · rfl
    refine t_norm ?_
    refine s_reg ?_
    iterate 4 refine v_op hT hC rfl rfl rfl rfl trivial ?_
    refine Vc.nil ?_
    refine aw_ret ?_
    injection h with h
    subst h
    exact ends (Weak.refl _) rfl trivial
def impl_Unescaped_res (r : (ByteArray × Bool)) : AV := .tup [.sv (.str r.1), .sv (.bool r.2)]
def impl_Unescaped_obs (r : (ByteArray × Bool)) : Objs := []
theorem impl_Unescaped_ac {p0 : ByteArray} {r : (ByteArray × Bool)} (h : impl_Unescaped p0 = some r) : AC Try.prog 209 [.sv (.str p0)] [] (impl_Unescaped_res r) (impl_Unescaped_obs r) := by
  refine ac_of_body hT Try.func209 rfl fun C hC => ?_
  unfold impl_Unescaped at h
  refine s_reg ?_
  iterate 2 refine v_op hT hC rfl rfl rfl rfl trivial ?_
  refine Vc.nil ?_
  refine s_reg ?_
  iterate 2 refine v_op hT hC rfl rfl rfl rfl trivial ?_
  obtain ⟨hq, h⟩ := req_some h
  refine v_op hT hC rfl rfl rfl rfl ⟨hq.1, hq.2.1, hq.2.2, by decide⟩ ?_
  refine v_op hT hC rfl rfl rfl rfl trivial ?_
  refine Vc.nil ?_
  refine s_reg ?_
  refine v_op hT hC rfl rfl rfl rfl trivial ?_
  refine Vc.nil ?_
  refine s_in ?_
  refine s_reg ?_
  refine v_op hT hC rfl rfl rfl rfl trivial ?_
  refine Vc.nil ?_
  refine live [0, 4, 5, 6] [176] (s' := [_, _, _, _]) (o' := [_]) rfl rfl ?_
  obtain ⟨v10, hl, h⟩ := bnd_some h
  refine s_loop (fun v5 => ([(5, .sv (.int .i64 v5.1)), (6, .sv (.int .i64 v5.2.1))], [(176, some (.ints .u8 v5.2.2))])) (fun v10 => ([(5, .any), (6, .any)], [(176, some (.ints .u8 v10))])) hl ?_ ?_ ?_
  · try dsimp only
    apply w_conv hC []
    · repeat' first | exact CO.nil | apply CO.gone | apply CO.row rfl rfl | apply CO.box rfl rfl | decide
    · rfl
    · decide
    · rfl
  · intro v5 s hs
    have h := hs
    unfold impl_Unescaped_l2 at h
    refine s_in ?_
    refine s_reg ?_
    iterate 4 refine v_op hT hC rfl rfl rfl rfl trivial ?_
    refine Vc.nil ?_
    rcases sel_some h with ⟨hb9, h⟩ | ⟨hb9, h⟩
    · refine s_true rfl hb9 ?_
      refine aw_skip ?_
      refine t_norm ?_
      refine live [0, 4, 5, 6] [176] (s' := [_, _, _, _]) (o' := [_]) rfl rfl ?_
      obtain ⟨v11, h1, h⟩ := bnd_some h
      refine aw_to ([(5, .sv (.int .i64 v11.1))], [(176, some (.ints .u8 v11.2))]) ?_ ?_
      · have h := h1
        refine s_block ?_
        refine live [0, 4, 5, 6] [176] (s' := [_, _, _, _]) (o' := [_]) rfl rfl ?_
        refine aw_joinH h (fun (v12 : Int) => ([(5, .sv (.int .i64 v12))], [])) (fun v12 h => ?_) (fun h => ?_)
        · refine aw_region ?_
          iterate 3 refine v_op hT hC rfl rfl rfl rfl trivial ?_
          obtain ⟨hq, h⟩ := req_some h
          refine v_op hT hC rfl rfl rfl rfl hq ?_
          refine v_op hT hC rfl rfl rfl rfl trivial ?_
          obtain ⟨hq, h⟩ := req_some h
          refine v_op hT hC rfl rfl rfl rfl ⟨trivial, hq⟩ ?_
          refine v_op hT hC rfl rfl rfl rfl trivial ?_
          refine Vc.nil ?_
          refine b_norm ?_
          injection h with h
          subst h
          refine m_norm ?_
          try dsimp only
          apply w_conv hC [(176, 624)]
          · repeat' first | exact CO.nil | apply CO.gone | apply CO.row rfl rfl | apply CO.box rfl rfl | decide
          · rfl
          · decide
          · rfl
        refine s_block ?_
        refine live [0, 4, 5, 6] [176] (s' := [_, _, _, _]) (o' := [_]) rfl rfl ?_
        obtain ⟨v13, h1, h⟩ := bnd_some h
        refine aw_to ([(18, .sv (.bool v13))], []) ?_ ?_
        · have h := h1
          refine aw_region ?_
          iterate 3 refine v_op hT hC rfl rfl rfl rfl trivial ?_
          rcases sel_some h with ⟨hb10, h⟩ | ⟨hb10, h⟩
          · iterate 2 refine v_on hT hC rfl rfl rfl rfl hb10 rfl rfl rfl trivial ?_
            obtain ⟨hq, h⟩ := req_some h
            refine v_on hT hC rfl rfl rfl rfl hb10 rfl rfl rfl hq ?_
            refine v_on hT hC rfl rfl rfl rfl hb10 rfl rfl rfl trivial ?_
            refine v_pick hC rfl rfl rfl (b := true) hb10 rfl rfl rfl trivial ?_
            refine v_op hT hC rfl rfl rfl rfl trivial ?_
            refine Vc.nil ?_
            injection h with h
            subst h
            refine m_norm ?_
            apply w_conv hC []
            · repeat' first | exact CO.nil | apply CO.gone | apply CO.row rfl rfl | apply CO.box rfl rfl | decide
            · rfl
            · decide
            · rfl
          · refine v_off hC rfl rfl rfl rfl hb10 rfl rfl ?_
            refine v_off hC rfl rfl rfl rfl hb10 rfl rfl ?_
            refine v_off hC rfl rfl rfl rfl hb10 rfl rfl ?_
            refine v_off hC rfl rfl rfl rfl hb10 rfl rfl ?_
            refine v_pick hC rfl rfl rfl (b := false) hb10 rfl rfl rfl trivial ?_
            refine v_op hT hC rfl rfl rfl rfl trivial ?_
            refine Vc.nil ?_
            injection h with h
            subst h
            refine m_norm ?_
            apply w_conv hC []
            · repeat' first | exact CO.nil | apply CO.gone | apply CO.row rfl rfl | apply CO.box rfl rfl | decide
            · rfl
            · decide
            · rfl
        rcases sel_some h with ⟨hb11, h⟩ | ⟨hb11, h⟩
        · refine s_true rfl hb11 ?_
          refine s_reg ?_
          refine v_op hT hC rfl rfl rfl rfl trivial ?_
          refine Vc.nil ?_
          refine aw_exit ?_
          refine b_other rfl ?_
          refine j_exit ?_
          refine b_exit ?_
          injection h with h
          subst h
          refine m_norm ?_
          try dsimp only
          apply w_conv hC []
          · repeat' first | exact CO.nil | apply CO.gone | apply CO.row rfl rfl | apply CO.box rfl rfl | decide
          · rfl
          · decide
          · rfl
        · refine s_false rfl hb11 ?_
          refine s_reg ?_
          iterate 2 refine v_op hT hC rfl rfl rfl rfl trivial ?_
          obtain ⟨hq, h⟩ := req_some h
          refine v_op hT hC rfl rfl rfl rfl hq ?_
          iterate 2 refine v_op hT hC rfl rfl rfl rfl trivial ?_
          refine Vc.nil ?_
          rcases sel_some h with ⟨hb12, h⟩ | ⟨hb12, h⟩
          · refine s_true rfl hb12 ?_
            refine aw_region ?_
            iterate 3 refine v_op hT hC rfl rfl rfl rfl trivial ?_
            refine Vc.nil ?_
            refine b_norm ?_
            refine j_norm (wrapK .i64 (v5.1 + 1)) h ?_
            apply w_conv hC []
            · repeat' first | exact CO.nil | apply CO.gone | apply CO.row rfl rfl | apply CO.box rfl rfl | decide
            · rfl
            · decide
            · rfl
          · refine s_false rfl hb12 ?_
            refine aw_region ?_
            refine v_op hT hC rfl rfl rfl rfl trivial ?_
            refine Vc.nil ?_
            refine b_norm ?_
            refine j_norm 0 h ?_
            apply w_conv hC []
            · repeat' first | exact CO.nil | apply CO.gone | apply CO.row rfl rfl | apply CO.box rfl rfl | decide
            · rfl
            · decide
            · rfl
      refine aw_region ?_
      iterate 3 refine v_op hT hC rfl rfl rfl rfl trivial ?_
      refine Vc.nil ?_
      injection h with h
      subst h
      refine r_go ?_
      try dsimp only
      apply w_conv hC []
      · repeat' first | exact CO.nil | apply CO.gone | apply CO.row rfl rfl | apply CO.box rfl rfl | decide
      · rfl
      · decide
      · rfl
    · refine s_false rfl hb9 ?_
      refine aw_exit ?_
      refine t_exit ?_
      injection h with h
      subst h
      refine r_exit ?_
      refine o_out ?_
      apply w_conv hC []
      · repeat' first | exact CO.nil | apply CO.gone | apply CO.row rfl rfl | apply CO.box rfl rfl | decide
      · rfl
      · decide
      · rfl
  refine t_norm ?_
  refine s_in ?_
  refine s_reg ?_
  iterate 2 refine v_op hT hC rfl rfl rfl rfl trivial ?_
  obtain ⟨q15, hq, h⟩ := bnd_some h
  refine v_call hC [] rfl rfl rfl rfl Try.call270 (impl_Escaped_ac hq) rfl (by decide) trivial rfl (.inl rfl) rfl ?_
  iterate 5 refine v_op hT hC rfl rfl rfl rfl trivial ?_
  refine Vc.nil ?_
  refine live [0, 4, 7, 8] [176] (s' := [_, _, _, _]) (o' := [_]) rfl rfl ?_
  obtain ⟨v16, h1, h⟩ := bnd_some h
  refine aw_to ([(52, .sv (.bool v16)), (0, .any), (7, .any), (8, .any)], []) ?_ ?_
  · have h := h1
    refine aw_region ?_
    iterate 3 refine v_op hT hC rfl rfl rfl rfl trivial ?_
    rcases sel_some h with ⟨hb13, h⟩ | ⟨hb13, h⟩
    · iterate 3 refine v_on hT hC rfl rfl rfl rfl (congrArg Bool.not hb13) rfl rfl rfl trivial ?_
      refine v_pick hC rfl rfl rfl (b := false) (congrArg Bool.not hb13) rfl rfl rfl trivial ?_
      refine Vc.nil ?_
      injection h with h
      subst h
      refine m_norm ?_
      apply w_conv hC []
      · repeat' first | exact CO.nil | apply CO.gone | apply CO.row rfl rfl | apply CO.box rfl rfl | decide
      · rfl
      · decide
      · rfl
    · refine v_off hC rfl rfl rfl rfl (congrArg Bool.not hb13) rfl rfl ?_
      refine v_off hC rfl rfl rfl rfl (congrArg Bool.not hb13) rfl rfl ?_
      refine v_off hC rfl rfl rfl rfl (congrArg Bool.not hb13) rfl rfl ?_
      refine v_pick hC rfl rfl rfl (b := true) (congrArg Bool.not hb13) rfl rfl rfl trivial ?_
      refine Vc.nil ?_
      injection h with h
      subst h
      refine m_norm ?_
      apply w_conv hC []
      · repeat' first | exact CO.nil | apply CO.gone | apply CO.row rfl rfl | apply CO.box rfl rfl | decide
      · rfl
      · decide
      · rfl
  rcases sel_some h with ⟨hb14, h⟩ | ⟨hb14, h⟩
  · refine s_true rfl hb14 ?_
    refine s_reg ?_
    iterate 2 refine v_op hT hC rfl rfl rfl rfl trivial ?_
    refine Vc.nil ?_
    refine aw_ret ?_
    refine t_ret ?_
    injection h with h
    subst h
    exact ends (Weak.refl _) rfl trivial
  · refine s_false rfl hb14 ?_
    refine aw_skip ?_
    refine t_norm ?_
    refine s_reg ?_
    iterate 4 refine v_op hT hC rfl rfl rfl rfl trivial ?_
    refine Vc.nil ?_
    refine aw_ret ?_
    injection h with h
    subst h
    exact ends (Weak.refl _) rfl trivial
def impl_Framed_res (r : (ByteArray × Bool)) : AV := .tup [.sv (.str r.1), .sv (.bool r.2)]
def impl_Framed_obs (r : (ByteArray × Bool)) : Objs := []
theorem impl_Framed_ac {p0 : (List ByteArray)} {r : (ByteArray × Bool)} (h : impl_Framed p0 = some r) : AC Try.prog 210 [.sv (cByteArray.sv p0)] [] (impl_Framed_res r) (impl_Framed_obs r) := by
  refine ac_of_body hT Try.func210 rfl fun C hC => ?_
  unfold impl_Framed at h
  refine s_reg ?_
  iterate 2 refine v_op hT hC rfl rfl rfl rfl trivial ?_
  refine Vc.nil ?_
  refine s_in ?_
  refine s_reg ?_
  iterate 3 refine v_op hT hC rfl rfl rfl rfl trivial ?_
  refine Vc.nil ?_
  rcases sel_some h with ⟨hb1, h⟩ | ⟨hb1, h⟩
  · refine s_true rfl hb1 ?_
    refine s_reg ?_
    iterate 2 refine v_op hT hC rfl rfl rfl rfl trivial ?_
    refine Vc.nil ?_
    refine aw_ret ?_
    refine t_ret ?_
    injection h with h
    subst h
    exact ends (Weak.refl _) rfl trivial
  · refine s_false rfl hb1 ?_
    refine aw_skip ?_
    refine t_norm ?_
    refine s_reg ?_
    iterate 2 refine v_op hT hC rfl rfl rfl rfl trivial ?_
    refine Vc.nil ?_
    refine s_in ?_
    refine s_reg ?_
    iterate 3 refine v_op hT hC rfl rfl rfl rfl trivial ?_
    refine Vc.nil ?_
    refine live [4, 13, 14, 15] [192] (s' := [_, _, _, _]) (o' := [_]) rfl rfl ?_
    obtain ⟨o11, hl, h⟩ := bnd_some h
    refine s_loopR (fun v4 => ([(15, .sv (.int .i64 v4.1))], [(192, some (.ints .u8 v4.2))])) (fun v8 => ([(13, .any), (14, .any), (15, .any)], [(192, some (.ints .u8 v8))])) (fun r => EndsA C T Try.f210.results.toList (impl_Framed_res r) (impl_Framed_obs r)) hl ?_ ?_ ?_ ?_
    · try dsimp only
      apply w_conv hC []
      · repeat' first | exact CO.nil | apply CO.gone | apply CO.row rfl rfl | apply CO.box rfl rfl | decide
      · rfl
      · decide
      · rfl
    · intro v4 s hs
      have h := hs
      unfold impl_Framed_l2 at h
      refine s_reg ?_
      refine v_op hT hC rfl rfl rfl rfl trivial ?_
      refine Vc.nil ?_
      refine s_in ?_
      rcases sel_some h with ⟨hb8, h⟩ | ⟨hb8, h⟩
      · refine s_true rfl hb8 ?_
        refine aw_skip ?_
        refine t_norm ?_
        refine s_in ?_
        refine s_block ?_
        refine s_reg ?_
        obtain ⟨hq, h⟩ := req_some h
        refine v_op hT hC rfl rfl rfl rfl hq ?_
        iterate 2 refine v_op hT hC rfl rfl rfl rfl trivial ?_
        refine Vc.nil ?_
        refine s_reg ?_
        refine v_op hT hC rfl rfl rfl rfl trivial ?_
        obtain ⟨q9, hq, h⟩ := bnd_some h
        refine v_call hC [] rfl rfl rfl rfl Try.call270 (impl_Escaped_ac hq) rfl (by decide) trivial rfl (.inl rfl) rfl ?_
        iterate 5 refine v_op hT hC rfl rfl rfl rfl trivial ?_
        refine Vc.nil ?_
        refine s_in ?_
        refine live [4, 7, 8, 13, 14, 15] [192] (s' := [_, _, _, _, _, _]) (o' := [_]) rfl rfl ?_
        obtain ⟨v10, h1, h⟩ := bnd_some h
        refine aw_to ([(34, .sv (.bool v10)), (8, .any)], []) ?_ ?_
        · have h := h1
          refine aw_region ?_
          iterate 3 refine v_op hT hC rfl rfl rfl rfl trivial ?_
          rcases sel_some h with ⟨hb9, h⟩ | ⟨hb9, h⟩
          · iterate 7 refine v_on hT hC rfl rfl rfl rfl (congrArg Bool.not hb9) rfl rfl rfl trivial ?_
            refine v_pick hC rfl rfl rfl (b := false) (congrArg Bool.not hb9) rfl rfl rfl trivial ?_
            refine Vc.nil ?_
            injection h with h
            subst h
            refine m_norm ?_
            apply w_conv hC []
            · repeat' first | exact CO.nil | apply CO.gone | apply CO.row rfl rfl | apply CO.box rfl rfl | decide
            · rfl
            · decide
            · rfl
          · refine v_off hC rfl rfl rfl rfl (congrArg Bool.not hb9) rfl rfl ?_
            refine v_off hC rfl rfl rfl rfl (congrArg Bool.not hb9) rfl rfl ?_
            refine v_off hC rfl rfl rfl rfl (congrArg Bool.not hb9) rfl rfl ?_
            refine v_off hC rfl rfl rfl rfl (congrArg Bool.not hb9) rfl rfl ?_
            refine v_off hC rfl rfl rfl rfl (congrArg Bool.not hb9) rfl rfl ?_
            refine v_off hC rfl rfl rfl rfl (congrArg Bool.not hb9) rfl rfl ?_
            refine v_off hC rfl rfl rfl rfl (congrArg Bool.not hb9) rfl rfl ?_
            refine v_pick hC rfl rfl rfl (b := true) (congrArg Bool.not hb9) rfl rfl rfl trivial ?_
            refine Vc.nil ?_
            injection h with h
            subst h
            refine m_norm ?_
            apply w_conv hC []
            · repeat' first | exact CO.nil | apply CO.gone | apply CO.row rfl rfl | apply CO.box rfl rfl | decide
            · rfl
            · decide
            · rfl
        rcases sel_some h with ⟨hb10, h⟩ | ⟨hb10, h⟩
        · refine s_true rfl hb10 ?_
          refine s_reg ?_
          iterate 2 refine v_op hT hC rfl rfl rfl rfl trivial ?_
          refine Vc.nil ?_
          refine aw_ret ?_
          refine t_ret ?_
          refine b_ret ?_
          refine t_ret ?_
          injection h with h
          subst h
          refine r_ret ?_
          refine o_ret ?_
          exact ends (Weak.refl _) rfl trivial
        · refine s_false rfl hb10 ?_
          refine aw_skip ?_
          refine t_norm ?_
          refine aw_region ?_
          iterate 2 refine v_op hT hC rfl rfl rfl rfl trivial ?_
          obtain ⟨hq, h⟩ := req_some h
          refine v_op hT hC rfl rfl rfl rfl ⟨trivial, hq⟩ ?_
          refine v_op hT hC rfl rfl rfl rfl trivial ?_
          obtain ⟨hq, h⟩ := req_some h
          refine v_op hT hC rfl rfl rfl rfl ⟨trivial, hq⟩ ?_
          refine v_op hT hC rfl rfl rfl rfl trivial ?_
          refine Vc.nil ?_
          refine b_norm ?_
          refine t_norm ?_
          refine aw_region ?_
          iterate 2 refine v_op hT hC rfl rfl rfl rfl trivial ?_
          refine Vc.nil ?_
          injection h with h
          subst h
          refine r_go ?_
          try dsimp only
          apply w_conv hC [(192, 624)]
          · repeat' first | exact CO.nil | apply CO.gone | apply CO.row rfl rfl | apply CO.box rfl rfl | decide
          · rfl
          · decide
          · rfl
      · refine s_false rfl hb8 ?_
        refine aw_exit ?_
        refine t_exit ?_
        injection h with h
        subst h
        refine r_exit ?_
        refine o_both ?_
        apply w_conv hC []
        · repeat' first | exact CO.nil | apply CO.gone | apply CO.row rfl rfl | apply CO.box rfl rfl | decide
        · rfl
        · decide
        · rfl
    · intro v8 e
      subst e
      refine t_norm ?_
      refine s_reg ?_
      iterate 4 refine v_op hT hC rfl rfl rfl rfl trivial ?_
      refine Vc.nil ?_
      refine aw_ret ?_
      injection h with h
      subst h
      exact ends (Weak.refl _) rfl trivial
    · intro r' σ' e hE
      subst e
      injection h with h
      subst h
      refine t_ret ?_
      exact hE
def impl_Unframed_res (r : ((List ByteArray) × Bool)) : AV := .tup [.own 16, .sv (.bool r.2)]
def impl_Unframed_obs (r : ((List ByteArray) × Bool)) : Objs := [(16, .row cByteArray r.1)]
theorem impl_Unframed_ac {p0 : ByteArray} {r : ((List ByteArray) × Bool)} (h : impl_Unframed p0 = some r) : AC Try.prog 129 [.sv (.str p0)] [] (impl_Unframed_res r) (impl_Unframed_obs r) := by
  refine ac_of_body hT Try.func129 rfl fun C hC => ?_
  unfold impl_Unframed at h
  refine s_reg ?_
  iterate 2 refine v_op hT hC rfl rfl rfl rfl trivial ?_
  refine Vc.nil ?_
  refine s_reg ?_
  iterate 2 refine v_op hT hC rfl rfl rfl rfl trivial ?_
  refine Vc.nil ?_
  refine s_in ?_
  refine s_reg ?_
  iterate 3 refine v_op hT hC rfl rfl rfl rfl trivial ?_
  refine Vc.nil ?_
  rcases sel_some h with ⟨hb1, h⟩ | ⟨hb1, h⟩
  · refine s_true rfl hb1 ?_
    refine s_reg ?_
    iterate 3 refine v_op hT hC rfl rfl rfl rfl trivial ?_
    refine Vc.nil ?_
    refine aw_ret ?_
    refine t_ret ?_
    injection h with h
    subst h
    refine ends (τ := ⟨[(2, .own 16), (3, .sv (.bool false))], [(16, some (.row cByteArray ([] : List ByteArray)))]⟩) ?_ rfl ⟨rfl, trivial⟩
    apply w_conv hC [(16, 176)]
    · repeat' first | exact CO.nil | apply CO.gone | apply CO.row rfl rfl | apply CO.box rfl rfl | decide
    · rfl
    · decide
    · rfl
  · refine s_false rfl hb1 ?_
    refine aw_skip ?_
    refine t_norm ?_
    refine s_reg ?_
    refine v_op hT hC rfl rfl rfl rfl trivial ?_
    obtain ⟨q1, hq, h⟩ := bnd_some h
    refine v_call hC [(16, 272)] rfl rfl rfl rfl Try.call208 (impl_places_ac hq) rfl (by decide) trivial rfl (.inl rfl) rfl ?_
    iterate 3 refine v_op hT hC rfl rfl rfl rfl trivial ?_
    obtain ⟨hq, h⟩ := req_some h
    refine v_op hT hC rfl rfl rfl rfl ⟨trivial, hq⟩ ?_
    refine v_op hT hC rfl rfl rfl rfl trivial ?_
    refine Vc.nil ?_
    refine s_in ?_
    refine s_reg ?_
    refine v_op hT hC rfl rfl rfl rfl trivial ?_
    refine Vc.nil ?_
    refine live [0, 4, 5, 6] [176, 336] (s' := [_, _, _, _]) (o' := [_, _]) rfl rfl ?_
    obtain ⟨o9, hl, h⟩ := bnd_some h
    refine s_loopR (fun v4 => ([(6, .sv (.int .i64 v4.1))], [(176, some (.row cByteArray v4.2))])) (fun v7 => ([(5, .any), (6, .any)], [(176, some (.row cByteArray v7)), (336, none)])) (fun r => EndsA C T Try.f129.results.toList (impl_Unframed_res r) (impl_Unframed_obs r)) hl ?_ ?_ ?_ ?_
    · try dsimp only
      apply w_conv hC []
      · repeat' first | exact CO.nil | apply CO.gone | apply CO.row rfl rfl | apply CO.box rfl rfl | decide
      · rfl
      · decide
      · rfl
    · intro v4 s hs
      have h := hs
      unfold impl_Unframed_l2 at h
      refine s_in ?_
      refine s_reg ?_
      iterate 5 refine v_op hT hC rfl rfl rfl rfl trivial ?_
      refine Vc.nil ?_
      rcases sel_some h with ⟨hb6, h⟩ | ⟨hb6, h⟩
      · refine s_true rfl hb6 ?_
        refine aw_skip ?_
        refine t_norm ?_
        refine s_in ?_
        refine s_block ?_
        refine s_draw hm ?_
        iterate 3 refine v_op hT hC rfl rfl rfl rfl trivial ?_
        obtain ⟨hq, h⟩ := req_some h
        refine v_op hT hC rfl rfl rfl rfl hq ?_
        obtain ⟨hq, h⟩ := req_some h
        refine v_op hT hC rfl rfl rfl rfl hq ?_
        iterate 4 refine v_op hT hC rfl rfl rfl rfl trivial ?_
        obtain ⟨hq, h⟩ := req_some h
        refine v_op hT hC rfl rfl rfl rfl hq ?_
        obtain ⟨hq, h⟩ := req_some h
        refine v_op hT hC rfl rfl rfl rfl hq ?_
        obtain ⟨hq, h⟩ := req_some h
        refine v_op hT hC rfl rfl rfl rfl hq ?_
        obtain ⟨q8, hq, h⟩ := bnd_some h
        refine v_call hC [] rfl rfl rfl rfl Try.call209 (impl_Unescaped_ac hq) rfl (by decide) trivial rfl (.inl rfl) rfl ?_
        iterate 5 refine v_op hT hC rfl rfl rfl rfl trivial ?_
        refine Vc.nil ⟨by kernel_rfl, ?_⟩
        refine s_in ?_
        refine s_reg ?_
        iterate 2 refine v_op hT hC rfl rfl rfl rfl trivial ?_
        refine Vc.nil ?_
        rcases sel_some h with ⟨hb7, h⟩ | ⟨hb7, h⟩
        · refine s_true rfl hb7 ?_
          refine s_reg ?_
          iterate 3 refine v_op hT hC rfl rfl rfl rfl trivial ?_
          refine Vc.nil ?_
          refine aw_ret ?_
          refine t_ret ?_
          refine b_ret ?_
          refine t_ret ?_
          injection h with h
          subst h
          refine r_ret ?_
          refine o_ret ?_
          refine ends (τ := ⟨[(2, .own 16), (3, .sv (.bool false))], [(16, some (.row cByteArray ([] : List ByteArray)))]⟩) ?_ rfl ⟨rfl, trivial⟩
          apply w_conv hC [(16, 752)]
          · repeat' first | exact CO.nil | apply CO.gone | apply CO.row rfl rfl | apply CO.box rfl rfl | decide
          · rfl
          · decide
          · rfl
        · refine s_false rfl hb7 ?_
          refine aw_skip ?_
          refine t_norm ?_
          refine aw_region ?_
          iterate 3 refine v_op hT hC rfl rfl rfl rfl trivial ?_
          obtain ⟨hq, h⟩ := req_some h
          refine v_op hT hC rfl rfl rfl rfl ⟨fun _ _ => rfl, by rw [cByteArray_id]; exact hq⟩ ?_
          rw [cByteArray_id]
          refine v_op hT hC rfl rfl rfl rfl trivial ?_
          refine Vc.nil ?_
          refine b_norm ?_
          refine t_norm ?_
          refine aw_region ?_
          iterate 3 refine v_op hT hC rfl rfl rfl rfl trivial ?_
          refine Vc.nil ?_
          injection h with h
          subst h
          refine r_go ?_
          try dsimp only
          apply w_conv hC [(176, 816)]
          · repeat' first | exact CO.nil | apply CO.gone | apply CO.row rfl rfl | apply CO.box rfl rfl | decide
          · rfl
          · decide
          · rfl
      · refine s_false rfl hb6 ?_
        refine aw_exit ?_
        refine t_exit ?_
        injection h with h
        subst h
        refine r_exit ?_
        refine o_both ?_
        apply w_conv hC []
        · repeat' first | exact CO.nil | apply CO.gone | apply CO.row rfl rfl | apply CO.box rfl rfl | decide
        · rfl
        · decide
        · rfl
    · intro v7 e
      subst e
      refine t_norm ?_
      refine s_in ?_
      refine s_reg ?_
      refine v_op hT hC rfl rfl rfl rfl trivial ?_
      obtain ⟨q10, hq, h⟩ := bnd_some h
      refine v_call hC [] rfl rfl rfl rfl Try.call210 (impl_Framed_ac hq) rfl (by decide) trivial rfl (.inr ⟨rfl, trivial⟩) rfl ?_
      iterate 5 refine v_op hT hC rfl rfl rfl rfl trivial ?_
      refine Vc.nil ?_
      refine live [0, 4, 9, 10] [176] (s' := [_, _, _, _]) (o' := [_]) rfl rfl ?_
      obtain ⟨v11, h1, h⟩ := bnd_some h
      refine aw_to ([(63, .sv (.bool v11)), (0, .any), (9, .any), (10, .any)], []) ?_ ?_
      · have h := h1
        refine aw_region ?_
        iterate 3 refine v_op hT hC rfl rfl rfl rfl trivial ?_
        rcases sel_some h with ⟨hb8, h⟩ | ⟨hb8, h⟩
        · iterate 3 refine v_on hT hC rfl rfl rfl rfl (congrArg Bool.not hb8) rfl rfl rfl trivial ?_
          refine v_pick hC rfl rfl rfl (b := false) (congrArg Bool.not hb8) rfl rfl rfl trivial ?_
          refine Vc.nil ?_
          injection h with h
          subst h
          refine m_norm ?_
          apply w_conv hC []
          · repeat' first | exact CO.nil | apply CO.gone | apply CO.row rfl rfl | apply CO.box rfl rfl | decide
          · rfl
          · decide
          · rfl
        · refine v_off hC rfl rfl rfl rfl (congrArg Bool.not hb8) rfl rfl ?_
          refine v_off hC rfl rfl rfl rfl (congrArg Bool.not hb8) rfl rfl ?_
          refine v_off hC rfl rfl rfl rfl (congrArg Bool.not hb8) rfl rfl ?_
          refine v_pick hC rfl rfl rfl (b := true) (congrArg Bool.not hb8) rfl rfl rfl trivial ?_
          refine Vc.nil ?_
          injection h with h
          subst h
          refine m_norm ?_
          apply w_conv hC []
          · repeat' first | exact CO.nil | apply CO.gone | apply CO.row rfl rfl | apply CO.box rfl rfl | decide
          · rfl
          · decide
          · rfl
      rcases sel_some h with ⟨hb9, h⟩ | ⟨hb9, h⟩
      · refine s_true rfl hb9 ?_
        refine s_reg ?_
        iterate 3 refine v_op hT hC rfl rfl rfl rfl trivial ?_
        refine Vc.nil ?_
        refine aw_ret ?_
        refine t_ret ?_
        injection h with h
        subst h
        refine ends (τ := ⟨[(2, .own 16), (3, .sv (.bool false))], [(16, some (.row cByteArray ([] : List ByteArray)))]⟩) ?_ rfl ⟨rfl, trivial⟩
        apply w_conv hC [(16, 1024)]
        · repeat' first | exact CO.nil | apply CO.gone | apply CO.row rfl rfl | apply CO.box rfl rfl | decide
        · rfl
        · decide
        · rfl
      · refine s_false rfl hb9 ?_
        refine aw_skip ?_
        refine t_norm ?_
        refine s_reg ?_
        iterate 3 refine v_op hT hC rfl rfl rfl rfl trivial ?_
        refine Vc.nil ?_
        refine aw_ret ?_
        injection h with h
        subst h
        refine ends (τ := ⟨[(2, .own 16), (3, .sv (.bool true))], [(16, some (.row cByteArray v7))]⟩) ?_ rfl ⟨rfl, trivial⟩
        apply w_conv hC [(16, 176)]
        · repeat' first | exact CO.nil | apply CO.gone | apply CO.row rfl rfl | apply CO.box rfl rfl | decide
        · rfl
        · decide
        · rfl
    · intro r' σ' e hE
      subst e
      injection h with h
      subst h
      refine t_ret ?_
      exact hE
def impl_PictureOf_res (r : ((List ByteArray) × Bool)) : AV := .tup [.own 16, .sv (.bool r.2)]
def impl_PictureOf_obs (r : ((List ByteArray) × Bool)) : Objs := [(16, .row cByteArray r.1)]
theorem impl_PictureOf_ac {p0 : (List Packet)} {r : ((List ByteArray) × Bool)} (h : impl_PictureOf p0 = some r) : AC Try.prog 41 [.sv (cPacket.sv p0)] [] (impl_PictureOf_res r) (impl_PictureOf_obs r) := by
  refine ac_of_body hT Try.func41 rfl fun C hC => ?_
  unfold impl_PictureOf at h
  refine s_reg ?_
  iterate 2 refine v_op hT hC rfl rfl rfl rfl trivial ?_
  refine Vc.nil ?_
  refine s_in ?_
  refine s_reg ?_
  iterate 2 refine v_op hT hC rfl rfl rfl rfl trivial ?_
  obtain ⟨q1, hq, h⟩ := bnd_some h
  refine v_call hC [] rfl rfl rfl rfl Try.call102 (impl_within_ac hq) rfl (by decide) trivial rfl (.inl rfl) rfl ?_
  refine v_op hT hC rfl rfl rfl rfl trivial ?_
  refine Vc.nil ?_
  rcases sel_some h with ⟨hb1, h⟩ | ⟨hb1, h⟩
  · refine s_true rfl hb1 ?_
    refine s_reg ?_
    iterate 3 refine v_op hT hC rfl rfl rfl rfl trivial ?_
    refine Vc.nil ?_
    refine aw_ret ?_
    refine t_ret ?_
    injection h with h
    subst h
    refine ends (τ := ⟨[(2, .own 16), (3, .sv (.bool false))], [(16, some (.row cByteArray ([] : List ByteArray)))]⟩) ?_ rfl ⟨rfl, trivial⟩
    apply w_conv hC [(16, 208)]
    · repeat' first | exact CO.nil | apply CO.gone | apply CO.row rfl rfl | apply CO.box rfl rfl | decide
    · rfl
    · decide
    · rfl
  · refine s_false rfl hb1 ?_
    refine aw_skip ?_
    refine t_norm ?_
    refine s_reg ?_
    refine v_op hT hC rfl rfl rfl rfl trivial ?_
    refine Vc.nil ?_
    refine s_in ?_
    refine s_reg ?_
    iterate 3 refine v_op hT hC rfl rfl rfl rfl trivial ?_
    refine Vc.nil ?_
    refine live [0, 4, 14, 15, 16] [] (s' := [_, _, _, _, _]) (o' := []) rfl rfl ?_
    obtain ⟨o15, hl, h⟩ := bnd_some h
    refine s_loopR (fun v6 => ([(4, .sv (.str v6.1)), (16, .sv (.int .i64 v6.2))], [])) (fun v11 => ([(4, .sv (.str v11)), (0, .any), (14, .any), (15, .any), (16, .any)], [])) (fun r => EndsA C T Try.f41.results.toList (impl_PictureOf_res r) (impl_PictureOf_obs r)) hl ?_ ?_ ?_ ?_
    · try dsimp only
      apply w_conv hC []
      · repeat' first | exact CO.nil | apply CO.gone | apply CO.row rfl rfl | apply CO.box rfl rfl | decide
      · rfl
      · decide
      · rfl
    · intro v6 s hs
      have h := hs
      unfold impl_PictureOf_l2 at h
      refine s_reg ?_
      refine v_op hT hC rfl rfl rfl rfl trivial ?_
      refine Vc.nil ?_
      refine s_in ?_
      rcases sel_some h with ⟨hb14, h⟩ | ⟨hb14, h⟩
      · refine s_true rfl hb14 ?_
        refine aw_skip ?_
        refine t_norm ?_
        refine s_in ?_
        refine s_block ?_
        refine s_reg ?_
        refine v_op hT hC rfl rfl rfl rfl trivial ?_
        obtain ⟨hq, h⟩ := req_some h
        refine v_op hT hC rfl rfl rfl rfl hq ?_
        iterate 4 refine v_op hT hC rfl rfl rfl rfl trivial ?_
        refine Vc.nil ?_
        refine s_in ?_
        refine live [0, 4, 5, 6, 14, 15, 16] [96] (s' := [_, _, _, _, _, _, _]) (o' := [_]) rfl rfl ?_
        obtain ⟨v12, h1, h⟩ := bnd_some h
        refine aw_to ([(56, .sv (.bool v12)), (5, .any)], []) ?_ ?_
        · have h := h1
          refine aw_draw hm ?_
          refine v_op hT hC rfl rfl rfl rfl trivial ?_
          obtain ⟨q13, hq, h⟩ := bnd_some h
          refine v_call hC [] rfl rfl rfl rfl Try.call127 (impl_PacketOk_ac hq) rfl (by decide) trivial rfl (.inl rfl) rfl ?_
          iterate 2 refine v_op hT hC rfl rfl rfl rfl trivial ?_
          rcases sel_some h with ⟨hb15, h⟩ | ⟨hb15, h⟩
          · iterate 5 refine v_on hT hC rfl rfl rfl rfl (congrArg Bool.not hb15) rfl rfl rfl trivial ?_
            refine v_pick hC rfl rfl rfl (b := false) (congrArg Bool.not hb15) rfl rfl rfl trivial ?_
            refine v_op hT hC rfl rfl rfl rfl trivial ?_
            rcases sel_some h with ⟨hb16, h⟩ | ⟨hb16, h⟩
            · iterate 8 refine v_on hT hC rfl rfl rfl rfl (congrArg Bool.not hb16) rfl rfl rfl trivial ?_
              refine v_pick hC rfl rfl rfl (b := false) (congrArg Bool.not hb16) rfl rfl rfl trivial ?_
              refine v_op hT hC rfl rfl rfl rfl trivial ?_
              rcases sel_some h with ⟨hb17, h⟩ | ⟨hb17, h⟩
              · iterate 3 refine v_on hT hC rfl rfl rfl rfl (congrArg Bool.not hb17) rfl rfl rfl trivial ?_
                rcases sel_some h with ⟨hb18, h⟩ | ⟨hb18, h⟩
                · iterate 5 refine v_on hT hC rfl rfl rfl rfl hb18 rfl rfl rfl trivial ?_
                  obtain ⟨hq, h⟩ := req_some h
                  refine v_on hT hC rfl rfl rfl rfl hb18 rfl rfl rfl hq ?_
                  iterate 2 refine v_on hT hC rfl rfl rfl rfl hb18 rfl rfl rfl trivial ?_
                  obtain ⟨q14, hq, h⟩ := bnd_some h
                  refine v_call_on hC [] rfl rfl rfl rfl hb18 rfl rfl rfl Try.call128 (impl_SeqPlus_ac hq) rfl (by decide) trivial rfl (.inl rfl) rfl ?_
                  refine v_on hT hC rfl rfl rfl rfl hb18 rfl rfl rfl trivial ?_
                  refine v_pick_on hC rfl rfl rfl rfl (congrArg Bool.not hb17) rfl rfl (b := true) hb18 rfl rfl rfl trivial ?_
                  refine v_pick hC rfl rfl rfl (b := false) (congrArg Bool.not hb17) rfl rfl rfl trivial ?_
                  refine Vc.nil ⟨by kernel_rfl, ?_⟩
                  injection h with h
                  subst h
                  refine m_norm ?_
                  apply w_conv hC []
                  · repeat' first | exact CO.nil | apply CO.gone | apply CO.row rfl rfl | apply CO.box rfl rfl | decide
                  · rfl
                  · decide
                  · rfl
                · refine v_off hC rfl rfl rfl rfl hb18 rfl rfl ?_
                  refine v_off hC rfl rfl rfl rfl hb18 rfl rfl ?_
                  refine v_off hC rfl rfl rfl rfl hb18 rfl rfl ?_
                  refine v_off hC rfl rfl rfl rfl hb18 rfl rfl ?_
                  refine v_off hC rfl rfl rfl rfl hb18 rfl rfl ?_
                  refine v_off hC rfl rfl rfl rfl hb18 rfl rfl ?_
                  refine v_off hC rfl rfl rfl rfl hb18 rfl rfl ?_
                  refine v_off hC rfl rfl rfl rfl hb18 rfl rfl ?_
                  refine v_off hC rfl rfl rfl rfl hb18 rfl rfl ?_
                  refine v_off hC rfl rfl rfl rfl hb18 rfl rfl ?_
                  refine v_pick_on hC rfl rfl rfl rfl (congrArg Bool.not hb17) rfl rfl (b := false) hb18 rfl rfl rfl trivial ?_
                  refine v_pick hC rfl rfl rfl (b := false) (congrArg Bool.not hb17) rfl rfl rfl trivial ?_
                  refine Vc.nil ⟨by kernel_rfl, ?_⟩
                  injection h with h
                  subst h
                  refine m_norm ?_
                  apply w_conv hC []
                  · repeat' first | exact CO.nil | apply CO.gone | apply CO.row rfl rfl | apply CO.box rfl rfl | decide
                  · rfl
                  · decide
                  · rfl
              · refine v_off hC rfl rfl rfl rfl (congrArg Bool.not hb17) rfl rfl ?_
                refine v_off hC rfl rfl rfl rfl (congrArg Bool.not hb17) rfl rfl ?_
                refine v_off hC rfl rfl rfl rfl (congrArg Bool.not hb17) rfl rfl ?_
                iterate 10 refine v_dead hC rfl rfl rfl rfl rfl rfl ?_
                refine v_off hC rfl rfl rfl rfl (congrArg Bool.not hb17) rfl rfl ?_
                refine v_pick hC rfl rfl rfl (b := true) (congrArg Bool.not hb17) rfl rfl rfl trivial ?_
                refine Vc.nil ⟨by kernel_rfl, ?_⟩
                injection h with h
                subst h
                refine m_norm ?_
                apply w_conv hC []
                · repeat' first | exact CO.nil | apply CO.gone | apply CO.row rfl rfl | apply CO.box rfl rfl | decide
                · rfl
                · decide
                · rfl
            · refine v_off hC rfl rfl rfl rfl (congrArg Bool.not hb16) rfl rfl ?_
              refine v_off hC rfl rfl rfl rfl (congrArg Bool.not hb16) rfl rfl ?_
              refine v_off hC rfl rfl rfl rfl (congrArg Bool.not hb16) rfl rfl ?_
              refine v_off hC rfl rfl rfl rfl (congrArg Bool.not hb16) rfl rfl ?_
              refine v_off hC rfl rfl rfl rfl (congrArg Bool.not hb16) rfl rfl ?_
              refine v_off hC rfl rfl rfl rfl (congrArg Bool.not hb16) rfl rfl ?_
              refine v_off hC rfl rfl rfl rfl (congrArg Bool.not hb16) rfl rfl ?_
              refine v_off hC rfl rfl rfl rfl (congrArg Bool.not hb16) rfl rfl ?_
              refine v_pick hC rfl rfl rfl (b := true) (congrArg Bool.not hb16) rfl rfl rfl trivial ?_
              refine v_op hT hC rfl rfl rfl rfl trivial ?_
              refine v_off hC rfl rfl rfl rfl rfl rfl rfl ?_
              refine v_off hC rfl rfl rfl rfl rfl rfl rfl ?_
              refine v_off hC rfl rfl rfl rfl rfl rfl rfl ?_
              iterate 10 refine v_dead hC rfl rfl rfl rfl rfl rfl ?_
              refine v_off hC rfl rfl rfl rfl rfl rfl rfl ?_
              refine v_op hT hC rfl rfl rfl rfl trivial ?_
              refine Vc.nil ⟨by kernel_rfl, ?_⟩
              injection h with h
              subst h
              refine m_norm ?_
              apply w_conv hC []
              · repeat' first | exact CO.nil | apply CO.gone | apply CO.row rfl rfl | apply CO.box rfl rfl | decide
              · rfl
              · decide
              · rfl
          · refine v_off hC rfl rfl rfl rfl (congrArg Bool.not hb15) rfl rfl ?_
            refine v_off hC rfl rfl rfl rfl (congrArg Bool.not hb15) rfl rfl ?_
            refine v_off hC rfl rfl rfl rfl (congrArg Bool.not hb15) rfl rfl ?_
            refine v_off hC rfl rfl rfl rfl (congrArg Bool.not hb15) rfl rfl ?_
            refine v_off hC rfl rfl rfl rfl (congrArg Bool.not hb15) rfl rfl ?_
            refine v_pick hC rfl rfl rfl (b := true) (congrArg Bool.not hb15) rfl rfl rfl trivial ?_
            refine v_op hT hC rfl rfl rfl rfl trivial ?_
            refine v_off hC rfl rfl rfl rfl rfl rfl rfl ?_
            refine v_off hC rfl rfl rfl rfl rfl rfl rfl ?_
            refine v_off hC rfl rfl rfl rfl rfl rfl rfl ?_
            refine v_off hC rfl rfl rfl rfl rfl rfl rfl ?_
            refine v_off hC rfl rfl rfl rfl rfl rfl rfl ?_
            refine v_off hC rfl rfl rfl rfl rfl rfl rfl ?_
            refine v_off hC rfl rfl rfl rfl rfl rfl rfl ?_
            refine v_off hC rfl rfl rfl rfl rfl rfl rfl ?_
            iterate 2 refine v_op hT hC rfl rfl rfl rfl trivial ?_
            refine v_off hC rfl rfl rfl rfl rfl rfl rfl ?_
            refine v_off hC rfl rfl rfl rfl rfl rfl rfl ?_
            refine v_off hC rfl rfl rfl rfl rfl rfl rfl ?_
            iterate 10 refine v_dead hC rfl rfl rfl rfl rfl rfl ?_
            refine v_off hC rfl rfl rfl rfl rfl rfl rfl ?_
            refine v_op hT hC rfl rfl rfl rfl trivial ?_
            refine Vc.nil ⟨by kernel_rfl, ?_⟩
            injection h with h
            subst h
            refine m_norm ?_
            apply w_conv hC []
            · repeat' first | exact CO.nil | apply CO.gone | apply CO.row rfl rfl | apply CO.box rfl rfl | decide
            · rfl
            · decide
            · rfl
        rcases sel_some h with ⟨hb19, h⟩ | ⟨hb19, h⟩
        · refine s_true rfl hb19 ?_
          refine s_reg ?_
          iterate 3 refine v_op hT hC rfl rfl rfl rfl trivial ?_
          refine Vc.nil ?_
          refine aw_ret ?_
          refine t_ret ?_
          refine b_ret ?_
          refine t_ret ?_
          injection h with h
          subst h
          refine r_ret ?_
          refine o_ret ?_
          refine ends (τ := ⟨[(2, .own 16), (3, .sv (.bool false))], [(16, some (.row cByteArray ([] : List ByteArray)))]⟩) ?_ rfl ⟨rfl, trivial⟩
          apply w_conv hC [(16, 912)]
          · repeat' first | exact CO.nil | apply CO.gone | apply CO.row rfl rfl | apply CO.box rfl rfl | decide
          · rfl
          · decide
          · rfl
        · refine s_false rfl hb19 ?_
          refine aw_skip ?_
          refine t_norm ?_
          refine aw_region ?_
          iterate 3 refine v_op hT hC rfl rfl rfl rfl trivial ?_
          obtain ⟨hq, h⟩ := req_some h
          refine v_op hT hC rfl rfl rfl rfl hq ?_
          refine v_op hT hC rfl rfl rfl rfl trivial ?_
          refine Vc.nil ?_
          refine b_norm ?_
          refine t_norm ?_
          refine aw_region ?_
          iterate 2 refine v_op hT hC rfl rfl rfl rfl trivial ?_
          refine Vc.nil ?_
          injection h with h
          subst h
          refine r_go ?_
          try dsimp only
          apply w_conv hC []
          · repeat' first | exact CO.nil | apply CO.gone | apply CO.row rfl rfl | apply CO.box rfl rfl | decide
          · rfl
          · decide
          · rfl
      · refine s_false rfl hb14 ?_
        refine aw_exit ?_
        refine t_exit ?_
        injection h with h
        subst h
        refine r_exit ?_
        refine o_both ?_
        apply w_conv hC []
        · repeat' first | exact CO.nil | apply CO.gone | apply CO.row rfl rfl | apply CO.box rfl rfl | decide
        · rfl
        · decide
        · rfl
    · intro v11 e
      subst e
      refine t_norm ?_
      refine s_reg ?_
      refine v_op hT hC rfl rfl rfl rfl trivial ?_
      obtain ⟨q16, hq, h⟩ := bnd_some h
      refine v_call hC [(16, 1040)] rfl rfl rfl rfl Try.call129 (impl_Unframed_ac hq) rfl (by decide) trivial rfl (.inl rfl) rfl ?_
      iterate 5 refine v_op hT hC rfl rfl rfl rfl trivial ?_
      refine Vc.nil ?_
      refine s_in ?_
      refine live [7, 8] [1040] (s' := [_, _]) (o' := [_]) rfl rfl ?_
      obtain ⟨v17, h1, h⟩ := bnd_some h
      refine aw_to ([(74, .sv (.bool v17)), (8, .any)], []) ?_ ?_
      · have h := h1
        refine aw_region ?_
        iterate 3 refine v_op hT hC rfl rfl rfl rfl trivial ?_
        rcases sel_some h with ⟨hb20, h⟩ | ⟨hb20, h⟩
        · iterate 3 refine v_on hT hC rfl rfl rfl rfl (congrArg Bool.not hb20) rfl rfl rfl trivial ?_
          refine v_pick hC rfl rfl rfl (b := false) (congrArg Bool.not hb20) rfl rfl rfl trivial ?_
          refine Vc.nil ?_
          injection h with h
          subst h
          refine m_norm ?_
          apply w_conv hC []
          · repeat' first | exact CO.nil | apply CO.gone | apply CO.row rfl rfl | apply CO.box rfl rfl | decide
          · rfl
          · decide
          · rfl
        · refine v_off hC rfl rfl rfl rfl (congrArg Bool.not hb20) rfl rfl ?_
          refine v_off hC rfl rfl rfl rfl (congrArg Bool.not hb20) rfl rfl ?_
          refine v_off hC rfl rfl rfl rfl (congrArg Bool.not hb20) rfl rfl ?_
          refine v_pick hC rfl rfl rfl (b := true) (congrArg Bool.not hb20) rfl rfl rfl trivial ?_
          refine Vc.nil ?_
          injection h with h
          subst h
          refine m_norm ?_
          apply w_conv hC []
          · repeat' first | exact CO.nil | apply CO.gone | apply CO.row rfl rfl | apply CO.box rfl rfl | decide
          · rfl
          · decide
          · rfl
      rcases sel_some h with ⟨hb21, h⟩ | ⟨hb21, h⟩
      · refine s_true rfl hb21 ?_
        refine s_reg ?_
        iterate 3 refine v_op hT hC rfl rfl rfl rfl trivial ?_
        refine Vc.nil ?_
        refine aw_ret ?_
        refine t_ret ?_
        injection h with h
        subst h
        refine ends (τ := ⟨[(2, .own 16), (3, .sv (.bool false))], [(16, some (.row cByteArray ([] : List ByteArray)))]⟩) ?_ rfl ⟨rfl, trivial⟩
        apply w_conv hC [(16, 1200)]
        · repeat' first | exact CO.nil | apply CO.gone | apply CO.row rfl rfl | apply CO.box rfl rfl | decide
        · rfl
        · decide
        · rfl
      · refine s_false rfl hb21 ?_
        refine aw_skip ?_
        refine t_norm ?_
        refine s_reg ?_
        iterate 3 refine v_op hT hC rfl rfl rfl rfl trivial ?_
        refine Vc.nil ?_
        refine aw_ret ?_
        injection h with h
        subst h
        refine ends (τ := ⟨[(2, .own 16), (3, .sv (.bool true))], [(16, some (.row cByteArray q16.1))]⟩) ?_ rfl ⟨rfl, trivial⟩
        apply w_conv hC [(16, 1040)]
        · repeat' first | exact CO.nil | apply CO.gone | apply CO.row rfl rfl | apply CO.box rfl rfl | decide
        · rfl
        · decide
        · rfl
    · intro r' σ' e hE
      subst e
      injection h with h
      subst h
      refine t_ret ?_
      exact hE
def laws_eqStringS_res (r : Bool) : AV := .sv (.bool r)
def laws_eqStringS_obs (r : Bool) : Objs := []
theorem laws_eqStringS_ac {p0 : (List ByteArray)} {p1 : (List ByteArray)} {r : Bool} (h : laws_eqStringS p0 p1 = some r) : AC Try.prog 42 [.sv (cByteArray.sv p0), .sv (cByteArray.sv p1)] [] (laws_eqStringS_res r) (laws_eqStringS_obs r) := by
  refine ac_of_body hT Try.func42 rfl fun C hC => ?_
  unfold laws_eqStringS at h
  refine s_reg ?_
  refine v_op hT hC rfl rfl rfl rfl trivial ?_
  refine Vc.nil ?_
  refine s_in ?_
  refine s_reg ?_
  iterate 5 refine v_op hT hC rfl rfl rfl rfl trivial ?_
  refine Vc.nil ?_
  rcases sel_some h with ⟨hb1, h⟩ | ⟨hb1, h⟩
  · refine s_true rfl hb1 ?_
    refine s_reg ?_
    refine v_op hT hC rfl rfl rfl rfl trivial ?_
    refine Vc.nil ?_
    refine aw_ret ?_
    refine t_ret ?_
    injection h with h
    subst h
    exact ends (Weak.refl _) rfl trivial
  · refine s_false rfl hb1 ?_
    refine aw_skip ?_
    refine t_norm ?_
    refine s_in ?_
    refine s_reg ?_
    refine v_op hT hC rfl rfl rfl rfl trivial ?_
    refine Vc.nil ?_
    refine live [0, 1, 5] [] (s' := [_, _, _]) (o' := []) rfl rfl ?_
    obtain ⟨o5, hl, h⟩ := bnd_some h
    refine s_loopR (fun v2 => ([(5, .sv (.int .i64 v2))], [])) (fun v4 => ([(0, .any), (1, .any), (5, .any)], [])) (fun r => EndsA C T Try.f42.results.toList (laws_eqStringS_res r) (laws_eqStringS_obs r)) hl ?_ ?_ ?_ ?_
    · apply w_conv hC []
      · repeat' first | exact CO.nil | apply CO.gone | apply CO.row rfl rfl | apply CO.box rfl rfl | decide
      · rfl
      · decide
      · rfl
    · intro v2 s hs
      have h := hs
      unfold laws_eqStringS_l2 at h
      refine s_in ?_
      refine s_reg ?_
      iterate 4 refine v_op hT hC rfl rfl rfl rfl trivial ?_
      refine Vc.nil ?_
      rcases sel_some h with ⟨hb6, h⟩ | ⟨hb6, h⟩
      · refine s_true rfl hb6 ?_
        refine aw_skip ?_
        refine t_norm ?_
        refine s_in ?_
        refine s_block ?_
        refine s_draw hm ?_
        iterate 2 refine v_op hT hC rfl rfl rfl rfl trivial ?_
        obtain ⟨hq, h⟩ := req_some h
        refine v_op hT hC rfl rfl rfl rfl hq ?_
        iterate 3 refine v_op hT hC rfl rfl rfl rfl trivial ?_
        obtain ⟨hq, h⟩ := req_some h
        refine v_op hT hC rfl rfl rfl rfl hq ?_
        iterate 2 refine v_op hT hC rfl rfl rfl rfl trivial ?_
        refine Vc.nil ⟨by kernel_rfl, ?_⟩
        rcases sel_some h with ⟨hb7, h⟩ | ⟨hb7, h⟩
        · refine s_true rfl hb7 ?_
          refine s_reg ?_
          refine v_op hT hC rfl rfl rfl rfl trivial ?_
          refine Vc.nil ?_
          refine aw_ret ?_
          refine b_ret ?_
          refine t_ret ?_
          injection h with h
          subst h
          refine r_ret ?_
          refine o_ret ?_
          exact ends (Weak.refl _) rfl trivial
        · refine s_false rfl hb7 ?_
          refine aw_skip ?_
          refine b_norm ?_
          refine t_norm ?_
          refine aw_region ?_
          iterate 3 refine v_op hT hC rfl rfl rfl rfl trivial ?_
          refine Vc.nil ?_
          injection h with h
          subst h
          refine r_go ?_
          apply w_conv hC []
          · repeat' first | exact CO.nil | apply CO.gone | apply CO.row rfl rfl | apply CO.box rfl rfl | decide
          · rfl
          · decide
          · rfl
      · refine s_false rfl hb6 ?_
        refine aw_exit ?_
        refine t_exit ?_
        injection h with h
        subst h
        refine r_exit ?_
        refine o_both ?_
        apply w_conv hC []
        · repeat' first | exact CO.nil | apply CO.gone | apply CO.row rfl rfl | apply CO.box rfl rfl | decide
        · rfl
        · decide
        · rfl
    · intro v4 e
      subst e
      refine t_norm ?_
      refine s_reg ?_
      refine v_op hT hC rfl rfl rfl rfl trivial ?_
      refine Vc.nil ?_
      refine aw_ret ?_
      injection h with h
      subst h
      exact ends (Weak.refl _) rfl trivial
    · intro r' σ' e hE
      subst e
      injection h with h
      subst h
      refine t_ret ?_
      exact hE
def laws_eqPacket_res (r : Bool) : AV := .sv (.bool r)
def laws_eqPacket_obs (r : Bool) : Objs := []
theorem laws_eqPacket_ac {p0 : Packet} {p1 : Packet} {r : Bool} (h : laws_eqPacket p0 p1 = some r) : AC Try.prog 130 [.agg [.sv (.int .i64 p0.Seq), .sv (.bool p0.First), .sv (.bool p0.Last), .sv (.str p0.Bytes)], .agg [.sv (.int .i64 p1.Seq), .sv (.bool p1.First), .sv (.bool p1.Last), .sv (.str p1.Bytes)]] [] (laws_eqPacket_res r) (laws_eqPacket_obs r) := by
  refine ac_of_body hT Try.func130 rfl fun C hC => ?_
  unfold laws_eqPacket at h
  refine s_reg ?_
  iterate 3 refine v_op hT hC rfl rfl rfl rfl trivial ?_
  refine Vc.nil ?_
  refine s_in ?_
  refine s_reg ?_
  iterate 5 refine v_op hT hC rfl rfl rfl rfl trivial ?_
  refine Vc.nil ?_
  rcases sel_some h with ⟨hb1, h⟩ | ⟨hb1, h⟩
  · refine s_true rfl hb1 ?_
    refine s_reg ?_
    refine v_op hT hC rfl rfl rfl rfl trivial ?_
    refine Vc.nil ?_
    refine aw_ret ?_
    refine t_ret ?_
    injection h with h
    subst h
    exact ends (Weak.refl _) rfl trivial
  · refine s_false rfl hb1 ?_
    refine aw_skip ?_
    refine t_norm ?_
    refine s_in ?_
    refine s_reg ?_
    iterate 5 refine v_op hT hC rfl rfl rfl rfl trivial ?_
    refine Vc.nil ?_
    rcases sel_some h with ⟨hb2, h⟩ | ⟨hb2, h⟩
    · refine s_true rfl hb2 ?_
      refine s_reg ?_
      refine v_op hT hC rfl rfl rfl rfl trivial ?_
      refine Vc.nil ?_
      refine aw_ret ?_
      refine t_ret ?_
      injection h with h
      subst h
      exact ends (Weak.refl _) rfl trivial
    · refine s_false rfl hb2 ?_
      refine aw_skip ?_
      refine t_norm ?_
      refine s_in ?_
      refine s_reg ?_
      iterate 5 refine v_op hT hC rfl rfl rfl rfl trivial ?_
      refine Vc.nil ?_
      rcases sel_some h with ⟨hb3, h⟩ | ⟨hb3, h⟩
      · refine s_true rfl hb3 ?_
        refine s_reg ?_
        refine v_op hT hC rfl rfl rfl rfl trivial ?_
        refine Vc.nil ?_
        refine aw_ret ?_
        refine t_ret ?_
        injection h with h
        subst h
        exact ends (Weak.refl _) rfl trivial
      · refine s_false rfl hb3 ?_
        refine aw_skip ?_
        refine t_norm ?_
        refine s_in ?_
        refine s_reg ?_
        iterate 5 refine v_op hT hC rfl rfl rfl rfl trivial ?_
        refine Vc.nil ?_
        rcases sel_some h with ⟨hb4, h⟩ | ⟨hb4, h⟩
        · refine s_true rfl hb4 ?_
          refine s_reg ?_
          refine v_op hT hC rfl rfl rfl rfl trivial ?_
          refine Vc.nil ?_
          refine aw_ret ?_
          refine t_ret ?_
          injection h with h
          subst h
          exact ends (Weak.refl _) rfl trivial
        · refine s_false rfl hb4 ?_
          refine aw_skip ?_
          refine t_norm ?_
          refine s_reg ?_
          refine v_op hT hC rfl rfl rfl rfl trivial ?_
          refine Vc.nil ?_
          refine aw_ret ?_
          injection h with h
          subst h
          exact ends (Weak.refl _) rfl trivial
def laws_eqPacketS_res (r : Bool) : AV := .sv (.bool r)
def laws_eqPacketS_obs (r : Bool) : Objs := []
theorem laws_eqPacketS_ac {p0 : (List Packet)} {p1 : (List Packet)} {r : Bool} (h : laws_eqPacketS p0 p1 = some r) : AC Try.prog 43 [.sv (cPacket.sv p0), .sv (cPacket.sv p1)] [] (laws_eqPacketS_res r) (laws_eqPacketS_obs r) := by
  refine ac_of_body hT Try.func43 rfl fun C hC => ?_
  unfold laws_eqPacketS at h
  refine s_reg ?_
  refine v_op hT hC rfl rfl rfl rfl trivial ?_
  refine Vc.nil ?_
  refine s_in ?_
  refine s_reg ?_
  iterate 5 refine v_op hT hC rfl rfl rfl rfl trivial ?_
  refine Vc.nil ?_
  rcases sel_some h with ⟨hb1, h⟩ | ⟨hb1, h⟩
  · refine s_true rfl hb1 ?_
    refine s_reg ?_
    refine v_op hT hC rfl rfl rfl rfl trivial ?_
    refine Vc.nil ?_
    refine aw_ret ?_
    refine t_ret ?_
    injection h with h
    subst h
    exact ends (Weak.refl _) rfl trivial
  · refine s_false rfl hb1 ?_
    refine aw_skip ?_
    refine t_norm ?_
    refine s_in ?_
    refine s_reg ?_
    refine v_op hT hC rfl rfl rfl rfl trivial ?_
    refine Vc.nil ?_
    refine live [0, 1, 5] [] (s' := [_, _, _]) (o' := []) rfl rfl ?_
    obtain ⟨o8, hl, h⟩ := bnd_some h
    refine s_loopR (fun v3 => ([(5, .sv (.int .i64 v3))], [])) (fun v6 => ([(0, .any), (1, .any), (5, .any)], [])) (fun r => EndsA C T Try.f43.results.toList (laws_eqPacketS_res r) (laws_eqPacketS_obs r)) hl ?_ ?_ ?_ ?_
    · apply w_conv hC []
      · repeat' first | exact CO.nil | apply CO.gone | apply CO.row rfl rfl | apply CO.box rfl rfl | decide
      · rfl
      · decide
      · rfl
    · intro v3 s hs
      have h := hs
      unfold laws_eqPacketS_l2 at h
      refine s_in ?_
      refine s_reg ?_
      iterate 4 refine v_op hT hC rfl rfl rfl rfl trivial ?_
      refine Vc.nil ?_
      rcases sel_some h with ⟨hb6, h⟩ | ⟨hb6, h⟩
      · refine s_true rfl hb6 ?_
        refine aw_skip ?_
        refine t_norm ?_
        refine s_in ?_
        refine s_block ?_
        refine s_draw hm ?_
        iterate 2 refine v_op hT hC rfl rfl rfl rfl trivial ?_
        obtain ⟨hq, h⟩ := req_some h
        refine v_op hT hC rfl rfl rfl rfl hq ?_
        iterate 3 refine v_op hT hC rfl rfl rfl rfl trivial ?_
        obtain ⟨hq, h⟩ := req_some h
        refine v_op hT hC rfl rfl rfl rfl hq ?_
        refine v_op hT hC rfl rfl rfl rfl trivial ?_
        obtain ⟨q7, hq, h⟩ := bnd_some h
        refine v_call hC [] rfl rfl rfl rfl Try.call130 (laws_eqPacket_ac hq) rfl (by decide) trivial rfl (.inl rfl) rfl ?_
        refine v_op hT hC rfl rfl rfl rfl trivial ?_
        refine Vc.nil ⟨by kernel_rfl, ?_⟩
        rcases sel_some h with ⟨hb7, h⟩ | ⟨hb7, h⟩
        · refine s_true rfl hb7 ?_
          refine s_reg ?_
          refine v_op hT hC rfl rfl rfl rfl trivial ?_
          refine Vc.nil ?_
          refine aw_ret ?_
          refine b_ret ?_
          refine t_ret ?_
          injection h with h
          subst h
          refine r_ret ?_
          refine o_ret ?_
          exact ends (Weak.refl _) rfl trivial
        · refine s_false rfl hb7 ?_
          refine aw_skip ?_
          refine b_norm ?_
          refine t_norm ?_
          refine aw_region ?_
          iterate 3 refine v_op hT hC rfl rfl rfl rfl trivial ?_
          refine Vc.nil ?_
          injection h with h
          subst h
          refine r_go ?_
          apply w_conv hC []
          · repeat' first | exact CO.nil | apply CO.gone | apply CO.row rfl rfl | apply CO.box rfl rfl | decide
          · rfl
          · decide
          · rfl
      · refine s_false rfl hb6 ?_
        refine aw_exit ?_
        refine t_exit ?_
        injection h with h
        subst h
        refine r_exit ?_
        refine o_both ?_
        apply w_conv hC []
        · repeat' first | exact CO.nil | apply CO.gone | apply CO.row rfl rfl | apply CO.box rfl rfl | decide
        · rfl
        · decide
        · rfl
    · intro v6 e
      subst e
      refine t_norm ?_
      refine s_reg ?_
      refine v_op hT hC rfl rfl rfl rfl trivial ?_
      refine Vc.nil ?_
      refine aw_ret ?_
      injection h with h
      subst h
      exact ends (Weak.refl _) rfl trivial
    · intro r' σ' e hE
      subst e
      injection h with h
      subst h
      refine t_ret ?_
      exact hE
def laws_markText_res (r : ByteArray) : AV := .sv (.str r)
def laws_markText_obs (r : ByteArray) : Objs := []
theorem laws_markText_ac {p0 : Int} {r : ByteArray} (h : laws_markText p0 = some r) : AC Try.prog 131 [.sv (.int .i64 p0)] [] (laws_markText_res r) (laws_markText_obs r) := by
  refine ac_of_body hT Try.func131 rfl fun C hC => ?_
  unfold laws_markText at h
  refine s_reg ?_
  refine v_op hT hC rfl rfl rfl rfl trivial ?_
  refine Vc.nil ?_
  refine s_in ?_
  refine s_reg ?_
  iterate 2 refine v_op hT hC rfl rfl rfl rfl trivial ?_
  refine Vc.nil ?_
  rcases sel_some h with ⟨hb1, h⟩ | ⟨hb1, h⟩
  · refine s_true rfl hb1 ?_
    refine s_reg ?_
    refine v_op hT hC rfl rfl rfl rfl trivial ?_
    refine Vc.nil ?_
    refine aw_ret ?_
    refine t_ret ?_
    injection h with h
    subst h
    exact ends (Weak.refl _) rfl trivial
  · refine s_false rfl hb1 ?_
    refine aw_skip ?_
    refine t_norm ?_
    refine s_reg ?_
    refine v_op hT hC rfl rfl rfl rfl trivial ?_
    refine Vc.nil ?_
    refine s_in ?_
    refine live [0, 3] [] (s' := [_, _]) (o' := []) rfl rfl ?_
    obtain ⟨v4, hl, h⟩ := bnd_some h
    refine s_loop (fun v2 => ([(0, .sv (.int .i64 v2.1)), (3, .sv (.str v2.2))], [])) (fun v4 => ([(3, .sv (.str v4)), (0, .any)], [])) hl ?_ ?_ ?_
    · try dsimp only
      apply w_conv hC []
      · repeat' first | exact CO.nil | apply CO.gone | apply CO.row rfl rfl | apply CO.box rfl rfl | decide
      · rfl
      · decide
      · rfl
    · intro v2 s hs
      have h := hs
      unfold laws_markText_l2 at h
      refine s_in ?_
      refine s_reg ?_
      iterate 2 refine v_op hT hC rfl rfl rfl rfl trivial ?_
      refine Vc.nil ?_
      rcases sel_some h with ⟨hb4, h⟩ | ⟨hb4, h⟩
      · refine s_true rfl hb4 ?_
        refine aw_skip ?_
        refine t_norm ?_
        refine s_block ?_
        refine s_reg ?_
        refine v_op hT hC rfl rfl rfl rfl trivial ?_
        obtain ⟨hq, h⟩ := req_some h
        refine v_op hT hC rfl rfl rfl rfl hq ?_
        iterate 5 refine v_op hT hC rfl rfl rfl rfl trivial ?_
        obtain ⟨hq, h⟩ := req_some h
        refine v_op hT hC rfl rfl rfl rfl hq ?_
        refine v_op hT hC rfl rfl rfl rfl trivial ?_
        refine Vc.nil ?_
        refine aw_region ?_
        refine v_op hT hC rfl rfl rfl rfl trivial ?_
        obtain ⟨hq, h⟩ := req_some h
        refine v_op hT hC rfl rfl rfl rfl hq ?_
        refine v_op hT hC rfl rfl rfl rfl trivial ?_
        refine Vc.nil ?_
        refine b_norm ?_
        injection h with h
        subst h
        refine r_go ?_
        try dsimp only
        apply w_conv hC []
        · repeat' first | exact CO.nil | apply CO.gone | apply CO.row rfl rfl | apply CO.box rfl rfl | decide
        · rfl
        · decide
        · rfl
      · refine s_false rfl hb4 ?_
        refine aw_exit ?_
        refine t_exit ?_
        injection h with h
        subst h
        refine r_exit ?_
        refine o_out ?_
        apply w_conv hC []
        · repeat' first | exact CO.nil | apply CO.gone | apply CO.row rfl rfl | apply CO.box rfl rfl | decide
        · rfl
        · decide
        · rfl
    refine t_norm ?_
    refine s_reg ?_
    refine v_op hT hC rfl rfl rfl rfl trivial ?_
    obtain ⟨hq, h⟩ := req_some h
    refine v_op hT hC rfl rfl rfl rfl hq ?_
    refine v_op hT hC rfl rfl rfl rfl trivial ?_
    refine Vc.nil ?_
    refine aw_ret ?_
    injection h with h
    subst h
    exact ends (Weak.refl _) rfl trivial
def laws_markPacketS_res (r : (Int × (List Packet))) : AV := .sv (.int .i64 r.1)
def laws_markPacketS_obs (r : (Int × (List Packet))) : Objs := [(0, .row cPacket r.2)]
theorem laws_markPacketS_ac {p0 : (List Packet)} {p1 : Int} {r : (Int × (List Packet))} (h : laws_markPacketS p0 p1 = some r) : AC Try.prog 44 [.own 0, .sv (.int .i64 p1)] [(0, .row cPacket p0)] (laws_markPacketS_res r) (laws_markPacketS_obs r) := by
  refine ac_of_body hT Try.func44 rfl fun C hC => ?_
  unfold laws_markPacketS at h
  refine s_reg ?_
  refine v_op hT hC rfl rfl rfl rfl trivial ?_
  refine Vc.nil ?_
  refine s_in ?_
  refine s_reg ?_
  refine v_op hT hC rfl rfl rfl rfl trivial ?_
  refine Vc.nil ?_
  refine live [0, 1, 5] [0] (s' := [_, _, _]) (o' := [_]) rfl rfl ?_
  obtain ⟨v14, hl, h⟩ := bnd_some h
  refine s_loop (fun v7 => ([(1, .sv (.int .i64 v7.1)), (5, .sv (.int .i64 v7.2.1))], [(0, some (.row cPacket v7.2.2))])) (fun v14 => ([(1, .sv (.int .i64 v14.1)), (0, .any), (5, .any)], [(0, some (.row cPacket v14.2))])) hl ?_ ?_ ?_
  · try dsimp only
    apply w_conv hC []
    · repeat' first | exact CO.nil | apply CO.gone | apply CO.row rfl rfl | apply CO.box rfl rfl | decide
    · rfl
    · decide
    · rfl
  · intro v7 s hs
    have h := hs
    unfold laws_markPacketS_l2 at h
    refine s_in ?_
    refine s_reg ?_
    iterate 4 refine v_op hT hC rfl rfl rfl rfl trivial ?_
    refine Vc.nil ?_
    rcases sel_some h with ⟨hb3, h⟩ | ⟨hb3, h⟩
    · refine s_true rfl hb3 ?_
      refine aw_skip ?_
      refine t_norm ?_
      refine s_in ?_
      refine s_block ?_
      refine s_reg ?_
      iterate 3 refine v_op hT hC rfl rfl rfl rfl trivial ?_
      obtain ⟨hq, h⟩ := req_some h
      refine v_op hT hC rfl rfl rfl rfl hq ?_
      refine v_op hT hC rfl rfl rfl rfl trivial ?_
      obtain ⟨hq, h⟩ := req_some h
      obtain ⟨s15, hs, h⟩ := bnd_some h
      injection hs with hs
      refine v_op hT hC rfl rfl rfl rfl hq ?_
      rw [hs]
      refine Vc.nil ?_
      refine s_reg ?_
      iterate 3 refine v_op hT hC rfl rfl rfl rfl trivial ?_
      refine Vc.nil ?_
      refine s_reg ?_
      iterate 3 refine v_op hT hC rfl rfl rfl rfl trivial ?_
      obtain ⟨hq, h⟩ := req_some h
      refine v_op hT hC rfl rfl rfl rfl hq ?_
      refine v_op hT hC rfl rfl rfl rfl trivial ?_
      obtain ⟨hq, h⟩ := req_some h
      refine v_op hT hC rfl rfl rfl rfl hq ?_
      refine v_op hT hC rfl rfl rfl rfl trivial ?_
      obtain ⟨hq, h⟩ := req_some h
      obtain ⟨s16, hs, h⟩ := bnd_some h
      injection hs with hs
      refine v_op hT hC rfl rfl rfl rfl hq ?_
      rw [hs]
      refine Vc.nil ?_
      refine s_reg ?_
      iterate 3 refine v_op hT hC rfl rfl rfl rfl trivial ?_
      refine Vc.nil ?_
      refine s_reg ?_
      iterate 3 refine v_op hT hC rfl rfl rfl rfl trivial ?_
      obtain ⟨hq, h⟩ := req_some h
      refine v_op hT hC rfl rfl rfl rfl hq ?_
      refine v_op hT hC rfl rfl rfl rfl trivial ?_
      obtain ⟨hq, h⟩ := req_some h
      refine v_op hT hC rfl rfl rfl rfl hq ?_
      refine v_op hT hC rfl rfl rfl rfl trivial ?_
      obtain ⟨hq, h⟩ := req_some h
      obtain ⟨s17, hs, h⟩ := bnd_some h
      injection hs with hs
      refine v_op hT hC rfl rfl rfl rfl hq ?_
      rw [hs]
      refine Vc.nil ?_
      refine s_reg ?_
      iterate 3 refine v_op hT hC rfl rfl rfl rfl trivial ?_
      refine Vc.nil ?_
      refine s_reg ?_
      iterate 3 refine v_op hT hC rfl rfl rfl rfl trivial ?_
      obtain ⟨q18, hq, h⟩ := bnd_some h
      refine v_call hC [] rfl rfl rfl rfl Try.call131 (laws_markText_ac hq) rfl (by decide) trivial rfl (.inl rfl) rfl ?_
      obtain ⟨hq, h⟩ := req_some h
      refine v_op hT hC rfl rfl rfl rfl hq ?_
      refine v_op hT hC rfl rfl rfl rfl trivial ?_
      obtain ⟨hq, h⟩ := req_some h
      obtain ⟨s19, hs, h⟩ := bnd_some h
      injection hs with hs
      refine v_op hT hC rfl rfl rfl rfl hq ?_
      rw [hs]
      refine Vc.nil ?_
      refine aw_region ?_
      iterate 3 refine v_op hT hC rfl rfl rfl rfl trivial ?_
      refine Vc.nil ?_
      refine b_norm ?_
      refine t_norm ?_
      refine aw_region ?_
      iterate 3 refine v_op hT hC rfl rfl rfl rfl trivial ?_
      refine Vc.nil ?_
      injection h with h
      subst h
      refine r_go ?_
      try dsimp only
      apply w_conv hC []
      · repeat' first | exact CO.nil | apply CO.gone | apply CO.row rfl rfl | apply CO.box rfl rfl | decide
      · rfl
      · decide
      · rfl
    · refine s_false rfl hb3 ?_
      refine aw_exit ?_
      refine t_exit ?_
      injection h with h
      subst h
      refine r_exit ?_
      refine o_out ?_
      try dsimp only
      apply w_conv hC []
      · repeat' first | exact CO.nil | apply CO.gone | apply CO.row rfl rfl | apply CO.box rfl rfl | decide
      · rfl
      · decide
      · rfl
  refine t_norm ?_
  refine s_reg ?_
  iterate 2 refine v_op hT hC rfl rfl rfl rfl trivial ?_
  refine Vc.nil ?_
  refine aw_ret ?_
  injection h with h
  subst h
  exact ends (Weak.refl _) rfl ⟨rfl, trivial⟩
def laws_markStringS_res (r : (Int × (List ByteArray))) : AV := .sv (.int .i64 r.1)
def laws_markStringS_obs (r : (Int × (List ByteArray))) : Objs := [(0, .row cByteArray r.2)]
theorem laws_markStringS_ac {p0 : (List ByteArray)} {p1 : Int} {r : (Int × (List ByteArray))} (h : laws_markStringS p0 p1 = some r) : AC Try.prog 45 [.own 0, .sv (.int .i64 p1)] [(0, .row cByteArray p0)] (laws_markStringS_res r) (laws_markStringS_obs r) := by
  refine ac_of_body hT Try.func45 rfl fun C hC => ?_
  unfold laws_markStringS at h
  refine s_reg ?_
  refine v_op hT hC rfl rfl rfl rfl trivial ?_
  refine Vc.nil ?_
  refine s_in ?_
  refine s_reg ?_
  refine v_op hT hC rfl rfl rfl rfl trivial ?_
  refine Vc.nil ?_
  refine live [0, 1, 5] [0] (s' := [_, _, _]) (o' := [_]) rfl rfl ?_
  obtain ⟨v6, hl, h⟩ := bnd_some h
  refine s_loop (fun v3 => ([(1, .sv (.int .i64 v3.1)), (5, .sv (.int .i64 v3.2.1))], [(0, some (.row cByteArray v3.2.2))])) (fun v6 => ([(1, .sv (.int .i64 v6.1)), (0, .any), (5, .any)], [(0, some (.row cByteArray v6.2))])) hl ?_ ?_ ?_
  · try dsimp only
    apply w_conv hC []
    · repeat' first | exact CO.nil | apply CO.gone | apply CO.row rfl rfl | apply CO.box rfl rfl | decide
    · rfl
    · decide
    · rfl
  · intro v3 s hs
    have h := hs
    unfold laws_markStringS_l2 at h
    refine s_in ?_
    refine s_reg ?_
    iterate 4 refine v_op hT hC rfl rfl rfl rfl trivial ?_
    refine Vc.nil ?_
    rcases sel_some h with ⟨hb3, h⟩ | ⟨hb3, h⟩
    · refine s_true rfl hb3 ?_
      refine aw_skip ?_
      refine t_norm ?_
      refine s_in ?_
      refine s_block ?_
      refine s_reg ?_
      iterate 3 refine v_op hT hC rfl rfl rfl rfl trivial ?_
      obtain ⟨q7, hq, h⟩ := bnd_some h
      refine v_call hC [] rfl rfl rfl rfl Try.call131 (laws_markText_ac hq) rfl (by decide) trivial rfl (.inl rfl) rfl ?_
      obtain ⟨hq, h⟩ := req_some h
      refine v_op hT hC rfl rfl rfl rfl hq ?_
      obtain ⟨hq, h⟩ := req_some h
      refine v_op hT hC rfl rfl rfl rfl hq ?_
      refine Vc.nil ?_
      refine aw_region ?_
      iterate 3 refine v_op hT hC rfl rfl rfl rfl trivial ?_
      refine Vc.nil ?_
      refine b_norm ?_
      refine t_norm ?_
      refine aw_region ?_
      iterate 3 refine v_op hT hC rfl rfl rfl rfl trivial ?_
      refine Vc.nil ?_
      injection h with h
      subst h
      refine r_go ?_
      try dsimp only
      apply w_conv hC []
      · repeat' first | exact CO.nil | apply CO.gone | apply CO.row rfl rfl | apply CO.box rfl rfl | decide
      · rfl
      · decide
      · rfl
    · refine s_false rfl hb3 ?_
      refine aw_exit ?_
      refine t_exit ?_
      injection h with h
      subst h
      refine r_exit ?_
      refine o_out ?_
      try dsimp only
      apply w_conv hC []
      · repeat' first | exact CO.nil | apply CO.gone | apply CO.row rfl rfl | apply CO.box rfl rfl | decide
      · rfl
      · decide
      · rfl
  refine t_norm ?_
  refine s_reg ?_
  iterate 2 refine v_op hT hC rfl rfl rfl rfl trivial ?_
  refine Vc.nil ?_
  refine aw_ret ?_
  injection h with h
  subst h
  exact ends (Weak.refl _) rfl ⟨rfl, trivial⟩
def laws_heldStringS_res (r : Int) : AV := .sv (.int .i64 r)
def laws_heldStringS_obs (r : Int) : Objs := []
theorem laws_heldStringS_ac {p0 : (List ByteArray)} {p1 : Int} {r : Int} (h : laws_heldStringS p0 p1 = some r) : AC Try.prog 46 [.sv (cByteArray.sv p0), .sv (.int .i64 p1)] [] (laws_heldStringS_res r) (laws_heldStringS_obs r) := by
  refine ac_of_body hT Try.func46 rfl fun C hC => ?_
  unfold laws_heldStringS at h
  refine s_reg ?_
  refine v_op hT hC rfl rfl rfl rfl trivial ?_
  refine Vc.nil ?_
  refine s_in ?_
  refine s_reg ?_
  refine v_op hT hC rfl rfl rfl rfl trivial ?_
  refine Vc.nil ?_
  refine live [0, 1, 5] [] (s' := [_, _, _]) (o' := []) rfl rfl ?_
  obtain ⟨o8, hl, h⟩ := bnd_some h
  refine s_loopR (fun v3 => ([(1, .sv (.int .i64 v3.1)), (5, .sv (.int .i64 v3.2))], [])) (fun v6 => ([(1, .sv (.int .i64 v6)), (0, .any), (5, .any)], [])) (fun r => EndsA C T Try.f46.results.toList (laws_heldStringS_res r) (laws_heldStringS_obs r)) hl ?_ ?_ ?_ ?_
  · try dsimp only
    apply w_conv hC []
    · repeat' first | exact CO.nil | apply CO.gone | apply CO.row rfl rfl | apply CO.box rfl rfl | decide
    · rfl
    · decide
    · rfl
  · intro v3 s hs
    have h := hs
    unfold laws_heldStringS_l2 at h
    refine s_in ?_
    refine s_reg ?_
    iterate 4 refine v_op hT hC rfl rfl rfl rfl trivial ?_
    refine Vc.nil ?_
    rcases sel_some h with ⟨hb5, h⟩ | ⟨hb5, h⟩
    · refine s_true rfl hb5 ?_
      refine aw_skip ?_
      refine t_norm ?_
      refine s_in ?_
      refine s_block ?_
      refine s_in ?_
      refine s_draw hm ?_
      iterate 2 refine v_op hT hC rfl rfl rfl rfl trivial ?_
      obtain ⟨hq, h⟩ := req_some h
      refine v_op hT hC rfl rfl rfl rfl hq ?_
      iterate 2 refine v_op hT hC rfl rfl rfl rfl trivial ?_
      obtain ⟨q7, hq, h⟩ := bnd_some h
      refine v_call hC [] rfl rfl rfl rfl Try.call131 (laws_markText_ac hq) rfl (by decide) trivial rfl (.inl rfl) rfl ?_
      refine v_op hT hC rfl rfl rfl rfl trivial ?_
      refine Vc.nil ⟨by kernel_rfl, ?_⟩
      rcases sel_some h with ⟨hb6, h⟩ | ⟨hb6, h⟩
      · refine s_true rfl hb6 ?_
        refine s_reg ?_
        refine v_op hT hC rfl rfl rfl rfl trivial ?_
        refine Vc.nil ?_
        refine aw_ret ?_
        refine t_ret ?_
        refine b_ret ?_
        refine t_ret ?_
        injection h with h
        subst h
        refine r_ret ?_
        refine o_ret ?_
        exact ends (Weak.refl _) rfl trivial
      · refine s_false rfl hb6 ?_
        refine aw_skip ?_
        refine t_norm ?_
        refine aw_region ?_
        iterate 3 refine v_op hT hC rfl rfl rfl rfl trivial ?_
        refine Vc.nil ?_
        refine b_norm ?_
        refine t_norm ?_
        refine aw_region ?_
        iterate 3 refine v_op hT hC rfl rfl rfl rfl trivial ?_
        refine Vc.nil ?_
        injection h with h
        subst h
        refine r_go ?_
        try dsimp only
        apply w_conv hC []
        · repeat' first | exact CO.nil | apply CO.gone | apply CO.row rfl rfl | apply CO.box rfl rfl | decide
        · rfl
        · decide
        · rfl
    · refine s_false rfl hb5 ?_
      refine aw_exit ?_
      refine t_exit ?_
      injection h with h
      subst h
      refine r_exit ?_
      refine o_both ?_
      apply w_conv hC []
      · repeat' first | exact CO.nil | apply CO.gone | apply CO.row rfl rfl | apply CO.box rfl rfl | decide
      · rfl
      · decide
      · rfl
  · intro v6 e
    subst e
    refine t_norm ?_
    refine s_reg ?_
    iterate 2 refine v_op hT hC rfl rfl rfl rfl trivial ?_
    refine Vc.nil ?_
    refine aw_ret ?_
    injection h with h
    subst h
    exact ends (Weak.refl _) rfl trivial
  · intro r' σ' e hE
    subst e
    injection h with h
    subst h
    refine t_ret ?_
    exact hE
end
end Go.Proofs.Ytplmeeookgefnaa.A
